/- Made by a program of ours out of the print of the loaded functions: for each of some functions a plain function, and the walk that shows that a call comes to what it says. No condition but those of each theorem. -/
import Derived.Test.YthmjhhkheohgfaaZFnMakers0
import Derived.Test.YthmjhhkheohgfaaZFnMakersa
import Derived.Test.YthmjhhkheohgfaaZFnMakersc
namespace Go.Proofs.Ythmjhhkheohgfaa.Q
open Go.RowKit Go.Proofs.YthmjhhkheohgfaaW.PrintWords Go.Proofs.YthmjhhkheohgfaaW.PrintLast Go.Proofs.YthmjhhkheohgfaaW.PrintMore
attribute [local go_sem] max2_int min2_int max_two min_two max_three min_three max_four min_four   -- for this text's walks alone
set_option linter.unusedVariables false
set_option linter.unusedSimpArgs false
theorem qd0_ {P : Prop} (h : P := by (try simp only [List.map_toArray, List.map_cons, List.map_nil]); first | done | rfl | (simp only [List.length_drop, List.length_take]; rfl)) : P := h
theorem qd1_ {P : Prop} (h : P := by repeat (first | (with_reducible first | exact HB.out | apply below_alloc | apply pw_below_drewN | apply below_drew1 | refine below_set ?_ GE989.out | refine below_set ?_ GE990.out) | exact HB.out)) : P := h
theorem qd2_ {P : Prop} (h : P := by repeat (first | (with_reducible first | exact HK.out | apply KeepBut.set_ | apply keep_drewN | apply keep_drew | apply keep_alloc) | exact HK.out)) : P := h
theorem qd3_ {P : Prop} (h : P := by repeat (first | (with_reducible first | exact HB.out | apply below_alloc | apply pw_below_drewN | apply below_drew1) | exact HB.out)) : P := h
theorem qd4_ {P : Prop} (h : P := by repeat (first | (with_reducible first | exact HI0.out | apply IsS_l1Cur.alloc | apply IsS_l1Cur.drewN | apply IsS_l1Cur.drew | apply IsS_l1Cur.set_1 | apply IsS_l1Cur.set_2) | exact HI0.out)) : P := h
theorem qd5_ {P : Prop} (h : P := by repeat (first | (with_reducible first | exact HB.out | apply below_alloc | apply pw_below_drewN | apply below_drew1 | refine below_set ?_ (IsS_l1Cur.ge HI0.out)) | exact HB.out)) : P := h
theorem qd6_ {P : Prop} (h : P := by repeat (first | (with_reducible first | exact HB.out | apply below_alloc | apply pw_below_drewN | apply below_drew1 | refine below_set ?_ (IsS_l1Cur.ge HI972.out) | refine below_set ?_ GE968.out) | exact HB.out)) : P := h
theorem qd7_ {P : Prop} (h : P := by first | rfl | (simp [errW_none, errW_some] <;> rfl) | (simp [*, errW_none, errW_some] <;> rfl)) : P := h
theorem qd8_ {P : Prop} (h : P := by (with_reducible repeat (first | apply Kd.S_alloc | apply Kd.S_drewN | apply Kd.S_drew)); exact HO_3.out) : P := h
theorem qd9_ {P : Prop} (h : P := by repeat (first | (with_reducible first | exact HB.out | apply below_alloc | apply pw_below_drewN | apply below_drew1 | refine below_set ?_ (IsS_l1Cur.ge HI972.out) | refine below_set ?_ GE968.out | refine below_set ?_ GE982.out) | exact HB.out)) : P := h
theorem qd10_ {P : Prop} (h : P := by repeat (first | (with_reducible first | exact HB.out | apply below_alloc | apply pw_below_drewN | apply below_drew1 | refine below_set ?_ (IsS_l1Cur.ge HI938.out) | refine below_set ?_ GE934.out) | exact HB.out)) : P := h
theorem qd11_ {P : Prop} (h : P := by first | rfl | (simp; done) | (simp [*]; done)) : P := h
theorem qd12_ {P : Prop} (h : P := by repeat (first | (with_reducible first | exact HB.out | apply below_alloc | apply pw_below_drewN | apply below_drew1 | refine below_set ?_ GE989.out) | exact HB.out)) : P := h
theorem qd13_ {P : Prop} (h : P := by (with_reducible repeat (first | apply Kd.S_alloc | apply Kd.S_drewN | apply Kd.S_drew)); exact HO959.out) : P := h
theorem qd14_ {P : Prop} (h : P := by (with_reducible repeat (first | apply Kd.R_alloc | apply Kd.R_drewN | apply Kd.R_drew)); exact HO979.out) : P := h
theorem qd15_ {P : Prop} (h : P := by repeat (first | (with_reducible first | exact HB.out | apply below_alloc | apply pw_below_drewN | apply below_drew1 | refine below_set ?_ (IsS_l1Cur.ge HI956.out)) | exact HB.out)) : P := h
theorem qd16_ {P : Prop} (h : P := by first | omega | exact Nat.le_refl _) : P := h
theorem qdh0_ {P : Prop} (h : P := by repeat' first | (with_reducible exact ih0 _ _ _ _ _ _ _ _ _ _ _ _ _ _) | (with_reducible exact impl_MakerAsk.mono _ _ _ _ _ _ _ _) | (with_reducible exact LeO.refl _) | (with_reducible exact LeO.none _) | (with_reducible refine LeO.ite ?_ ?_) | (with_reducible refine LeO.bind ?_ (fun _ => ?_)) | exact ih0 _ _ _ _ _ _ _ _ _ _ _ _ _ _ | exact impl_MakerAsk.mono _ _ _ _ _ _ _ _ | exact LeO.none _ | refine LeO.ite ?_ ?_ | refine LeO.bind ?_ (fun _ => ?_)) : P := h
theorem qdh1_ {P : Prop} (h : P := by repeat' first | (with_reducible exact ih0 _ _ _ _ _) | (with_reducible exact spec_MakerSet.mono _ _ _ _ _ _ _) | (with_reducible exact spec_l4Draw.mono _ _ _ _) | (with_reducible exact LeO.refl _) | (with_reducible exact LeO.none _) | (with_reducible refine LeO.ite ?_ ?_) | (with_reducible refine LeO.bind ?_ (fun _ => ?_)) | exact ih0 _ _ _ _ _ | exact spec_MakerSet.mono _ _ _ _ _ _ _ | exact spec_l4Draw.mono _ _ _ _ | exact LeO.none _ | refine LeO.ite ?_ ?_ | refine LeO.bind ?_ (fun _ => ?_)) : P := h
theorem qdh2_ {P : Prop} (h : P := by repeat' first | (with_reducible exact ih0 _ _ _ _ _ _ _ _ _ _ _) | (with_reducible exact ih1 _ _ _ _ _ _ _ _ _ _ _) | (with_reducible exact LeO.refl _) | (with_reducible exact LeO.none _) | (with_reducible refine LeO.ite ?_ ?_) | (with_reducible refine LeO.bind ?_ (fun _ => ?_)) | exact ih0 _ _ _ _ _ _ _ _ _ _ _ | exact ih1 _ _ _ _ _ _ _ _ _ _ _ | exact LeO.none _ | refine LeO.ite ?_ ?_ | refine LeO.bind ?_ (fun _ => ?_)) : P := h

/-! ### impl_MakerPut: function 35 -/
def impl_MakerPut.j0 : Nat → Int → Int → Int → Int → Int → Int → Int → Int → List (S_Mark) → Int → Int → Int → Int → List (S_Mark) → Option (Int × Int × Int × Int × (List (S_Mark)))
 | 0, _, _, _, _, _, _, _, _, _, _, _, _, _, _ => none
 | k + 1, x1, x2, x3, x4, x885000, x885001, x885002, x885003, x885004, x894000, x894001, x894002, x894003, x894004 => if x2 > x885002 then (if ([] : List (S_Mark)).length < 8796093022208 then ((some (([] : List (S_Mark)) ++ [(⟨x3, x4⟩ : S_Mark)] : List (S_Mark))).bind fun y896 => (if 0 ≤ (mx (wrap64 ((y896.length : Int) - (mx x1 0))) 0) then (if (mx (wrap64 ((y896.length : Int) - (mx x1 0))) 0) ≤ (y896.length : Int) then ((some (y896.drop ((mx (wrap64 ((y896.length : Int) - (mx x1 0))) 0) : Int).toNat : List (S_Mark))).bind fun y899 => (if ([] : List (S_Mark)).length + y899.length < 8796093022208 then (some (x894000, x894001, x2, x3, (([] : List (S_Mark)) ++ y899))) else (none))) else (none)) else (none))) else (none)) else (if x894004.length < 8796093022208 then ((some (x894004 ++ [(⟨x3, x4⟩ : S_Mark)] : List (S_Mark))).bind fun y906 => (if 0 ≤ (mx (wrap64 ((y906.length : Int) - (mx x1 0))) 0) then (if (mx (wrap64 ((y906.length : Int) - (mx x1 0))) 0) ≤ (y906.length : Int) then ((some (y906.drop ((mx (wrap64 ((y906.length : Int) - (mx x1 0))) 0) : Int).toNat : List (S_Mark))).bind fun y909 => (if ([] : List (S_Mark)).length + y909.length < 8796093022208 then (some (x894000, x894001, x2, x3, (([] : List (S_Mark)) ++ y909))) else (none))) else (none)) else (none))) else (none))
def impl_MakerPut.f (k : Nat) (a0_0 : Int) (a0_1 : Int) (a0_2 : Int) (a0_3 : Int) (l0_4 : List (S_Mark)) (a1 : Int) (a2 : Int) (a3 : Int) (a4 : Int) : Option (Int × Int × Int × Int × (List (S_Mark))) := (impl_copyMaker.f a0_0 a0_1 a0_2 a0_3 l0_4).bind fun bt886 => ((impl_MakerAsk.f k a0_0 a0_1 a0_2 a0_3 l0_4 a2 a3).bind fun bt894 => (if bt894.1 = 0 then (impl_MakerPut.j0 k a1 a2 a3 a4 a0_0 a0_1 a0_2 a0_3 l0_4 bt886.1 bt886.2.1 bt886.2.2.1 bt886.2.2.2.1 bt886.2.2.2.2) else (some (bt886.1, bt886.2.1, bt886.2.2.1, bt886.2.2.2.1, bt886.2.2.2.2))))
theorem impl_MakerPut.mono_l : ∀ k, (∀ y0 y1 y2 y3 y4 y5 y6 y7 y8 y9 y10 y11 y12 y13, LeO (impl_MakerPut.j0 k y0 y1 y2 y3 y4 y5 y6 y7 y8 y9 y10 y11 y12 y13) (impl_MakerPut.j0 (k + 1) y0 y1 y2 y3 y4 y5 y6 y7 y8 y9 y10 y11 y12 y13))
 | 0 => fun _ _ _ _ _ _ _ _ _ _ _ _ _ _ r h => by simp [impl_MakerPut.j0] at h
 | k + 1 => by
  have ih0 := impl_MakerPut.mono_l k
  ·
   intro y0 y1 y2 y3 y4 y5 y6 y7 y8 y9 y10 y11 y12 y13
   unfold impl_MakerPut.j0
   exact qdh0_
theorem impl_MakerPut.mono : ∀ a0 a1 a2 a3 a4 a5 a6 a7 a8 k, LeO (impl_MakerPut.f k a0 a1 a2 a3 a4 a5 a6 a7 a8) (impl_MakerPut.f (k + 1) a0 a1 a2 a3 a4 a5 a6 a7 a8) := by
 intro a0 a1 a2 a3 a4 a5 a6 a7 a8 k
 have ih0 := impl_MakerPut.mono_l k
 unfold impl_MakerPut.f
 exact qdh0_
set_option maxHeartbeats 8000000 in
set_option maxRecDepth 100000 in
theorem impl_MakerPut.calls (k : Nat) (a0_0 : Int) (a0_1 : Int) (a0_2 : Int) (a0_3 : Int) (A0_4 : Option Addr) (c0_4 : Nat) (l0_4 : List (S_Mark)) (a1 : Int) (a2 : Int) (a3 : Int) (a4 : Int) (r1 : Int) (r2 : Int) (r3 : Int) (r4 : Int) (r5 : List (S_Mark)) (w : World) (hr0_4 : Kd.C k_Mark w A0_4 l0_4.length l0_4) (hc0_4 : l0_4.length ≤ c0_4) (h : impl_MakerPut.f k a0_0 a0_1 a0_2 a0_3 l0_4 a1 a2 a3 a4 = some (r1, r2, r3, r4, r5)) :
 Calls Try.prog 35 #[.agg #[.int .i64 a0_0, .int .i64 a0_1, .int .i64 a0_2, .int .i64 a0_3, .slice A0_4 l0_4.length c0_4], .int .i64 a1, .int .i64 a2, .int .i64 a3, .int .i64 a4] w fun e w' => ∃ v4_ : Value, e = .returned (.agg #[.int .i64 r1, .int .i64 r2, .int .i64 r3, .int .i64 r4, v4_]) ∧ Kd.R k_Mark 110 w' w.heap.size (fun _ => True) v4_ r5 ∧ Below w.heap.size w w' := by
 have hu38 := Try.underlying38
 have hu110 := Try.underlying110
 have HR0_4 := Aside0.mk hr0_4
 have HC0_4 := Aside0.mk hc0_4
 clear hr0_4 hc0_4
 have HB := Aside0.mk (Below.refl w.heap.size w)
 have H : ((impl_copyMaker.f a0_0 a0_1 a0_2 a0_3 l0_4).bind fun bt886 => ((impl_MakerAsk.f k a0_0 a0_1 a0_2 a0_3 l0_4 a2 a3).bind fun bt894 => (if bt894.1 = 0 then (impl_MakerPut.j0 k a1 a2 a3 a4 a0_0 a0_1 a0_2 a0_3 l0_4 bt886.1 bt886.2.1 bt886.2.2.1 bt886.2.2.2.1 bt886.2.2.2.2) else (some (bt886.1, bt886.2.1, bt886.2.2.1, bt886.2.2.2.1, bt886.2.2.2.2))))) = some (r1, r2, r3, r4, r5) := h
 clear h
 replace H := Option.bind_eq_some_iff.mp H
 obtain ⟨⟨t886, t887, t888, t889, t890⟩, A60, H⟩ := H
 replace H : ((impl_MakerAsk.f k a0_0 a0_1 a0_2 a0_3 l0_4 a2 a3).bind fun bt894 => (if bt894.1 = 0 then (impl_MakerPut.j0 k a1 a2 a3 a4 a0_0 a0_1 a0_2 a0_3 l0_4 t886 t887 t888 t889 t890) else (some (t886, t887, t888, t889, t890)))) = some (r1, r2, r3, r4, r5) := H
 have A6 := Aside0.mk A60
 clear A60
 replace H := Option.bind_eq_some_iff.mp H
 obtain ⟨⟨t894, t895⟩, A70, H⟩ := H
 replace H : (if t894 = 0 then (impl_MakerPut.j0 k a1 a2 a3 a4 a0_0 a0_1 a0_2 a0_3 l0_4 t886 t887 t888 t889 t890) else (some (t886, t887, t888, t889, t890))) = some (r1, r2, r3, r4, r5) := H
 have A7 := Aside0.mk A70
 clear A70
 have HC8 := Aside0.mk H
 clear H
 go_enter Try.func35, Try.ntmps35
 go_upto_if 24 with (first | ((with_reducible refine gate_dst (N := 5) rfl ?_); refine box_event ?hg (N := 5) ?hd (cs := #[.int .i64 a0_0, .int .i64 a0_1, .int .i64 a0_2, .int .i64 a0_3, .slice A0_4 l0_4.length c0_4]) (t := 38) ?hr ?_; (case hd => rfl); (case hg => rfl); (case hr => first | (go_simp; done) | (go_simp; rfl)); intro gb884 hg w9 hbox hb; have BK884 := Aside0.mk (hbox); have GW884 := cz_ HB hg; have GE884 := cz_ HB hg; replace HB := ch_ HB hb; clear hb hbox hg) | ((with_reducible refine gate_dst (N := 10) rfl ?_); refine box_event ?hg (N := 10) ?hd (cs := #[.int .i64 0, .int .i64 0, .int .i64 0, .int .i64 0, .slice none 0 0]) (t := 38) ?hr ?_; (case hd => rfl); (case hg => rfl); (case hr => first | (go_simp; done) | (go_simp; rfl)); intro gb885 hg w10 hbox hb; have BK885 := Aside0.mk (hbox); have GW885 := cz_ HB hg; have GE885 := cz_ HB hg; have NB884_885 := cn_ BK884 hg; have NB885_884 := cm_ BK884 hg; replace BK884 := cb_ BK884 hb; replace HB := ch_ HB hb; clear hb hbox hg; have hnb11 := NB884_885.out; have hnc11 := NB885_884.out; have hcz12_0 : w10.cell? ⟨gb884, 0, none⟩ = some (.int .i64 a0_0) := bc_ BK884 0; have hcz12_1 : w10.cell? ⟨gb884, 1, none⟩ = some (.int .i64 a0_1) := bc_ BK884 1; have hcz12_2 : w10.cell? ⟨gb884, 2, none⟩ = some (.int .i64 a0_2) := bc_ BK884 2; have hcz12_3 : w10.cell? ⟨gb884, 3, none⟩ = some (.int .i64 a0_3) := bc_ BK884 3; have hcz12_4 : w10.cell? ⟨gb884, 4, none⟩ = some (.slice A0_4 l0_4.length c0_4) := bc_ BK884 4; have hfz12_0 := blk_frozen BK884.out 0; have hfz12_1 := blk_frozen BK884.out 1; have hfz12_2 := blk_frozen BK884.out 2; have hfz12_3 := blk_frozen BK884.out 3; have hfz12_4 := blk_frozen BK884.out 4) | ((with_reducible refine gate_callee (f := 61) rfl ?_); refine goesL_ (some 15) rfl rfl Try.func61 (by kernel_rfl) rfl #[.agg #[.int .i64 a0_0, .int .i64 a0_1, .int .i64 a0_2, .int .i64 a0_3, .slice A0_4 l0_4.length c0_4]] rfl sm_ ?_; (with_reducible refine (impl_copyMaker.calls a0_0 a0_1 a0_2 a0_3 _ _ l0_4 t886 t887 t888 t889 t890 _ ?side1 ?side2 A6.out).mono ?_); (case side1 => repeat (first | exact (Kd.C_below HR0_4.out HB.out) | (with_reducible refine Kd.C_alloc ?_ _) | (with_reducible refine Kd.C_drewN ?_ _) | (with_reducible refine Kd.C_drew ?_))); (case side2 => exact HC0_4.out); rintro e w13 ⟨v891, rfl, ho0, hb⟩; refine ⟨_, rfl, ?_⟩; have HO892 := Aside0.mk (Kd.R_lower ho0 (below_size (hb_ HB.out))); replace BK884 := cb_ BK884 hb; replace BK885 := cb_ BK885 hb; replace HB := ch_ HB hb; (try clear hb); (try clear hb2); (try clear hk); (try clear hi); (try clear ho0)) | ((with_reducible refine gate_dst (N := 11) rfl ?_); refine box_event ?hg (N := 11) ?hd (cs := #[.int .i64 0, .int .i64 0, .int .i64 0, .int .i64 0, .slice none 0 0]) (t := 38) ?hr ?_; (case hd => rfl); (case hg => rfl); (case hr => first | (go_simp; done) | (go_simp; rfl)); intro gb893 hg w14 hbox hb; have BK893 := Aside0.mk (hbox); have GW893 := cz_ HB hg; have GE893 := cz_ HB hg; have NB884_893 := cn_ BK884 hg; have NB893_884 := cm_ BK884 hg; have NB885_893 := cn_ BK885 hg; have NB893_885 := cm_ BK885 hg; replace HO892 := cr_ HO892 hb; replace BK884 := cb_ BK884 hb; replace BK885 := cb_ BK885 hb; replace HB := ch_ HB hb; clear hb hbox hg; have hnb15 := NB893_884.out; have hnc15 := NB884_893.out; have hnb16 := NB893_885.out; have hnc16 := NB885_893.out; have hcz17_0 : w14.cell? ⟨gb893, 0, none⟩ = some (.int .i64 0) := bc_ BK893 0; have hcz17_1 : w14.cell? ⟨gb893, 1, none⟩ = some (.int .i64 0) := bc_ BK893 1; have hcz17_2 : w14.cell? ⟨gb893, 2, none⟩ = some (.int .i64 0) := bc_ BK893 2; have hcz17_3 : w14.cell? ⟨gb893, 3, none⟩ = some (.int .i64 0) := bc_ BK893 3; have hcz17_4 : w14.cell? ⟨gb893, 4, none⟩ = some (.slice none 0 0) := bc_ BK893 4; have hfz17_0 := blk_frozen BK893.out 0; have hfz17_1 := blk_frozen BK893.out 1; have hfz17_2 := blk_frozen BK893.out 2; have hfz17_3 := blk_frozen BK893.out 3; have hfz17_4 := blk_frozen BK893.out 4; obtain ⟨Ao18, co18, eo18⟩ := Kd.R_slice HO892.out; subst eo18; have hcz19_0 : w14.cell? ⟨gb884, 0, none⟩ = some (.int .i64 a0_0) := bc_ BK884 0; have hcz19_1 : w14.cell? ⟨gb884, 1, none⟩ = some (.int .i64 a0_1) := bc_ BK884 1; have hcz19_2 : w14.cell? ⟨gb884, 2, none⟩ = some (.int .i64 a0_2) := bc_ BK884 2; have hcz19_3 : w14.cell? ⟨gb884, 3, none⟩ = some (.int .i64 a0_3) := bc_ BK884 3; have hcz19_4 : w14.cell? ⟨gb884, 4, none⟩ = some (.slice A0_4 l0_4.length c0_4) := bc_ BK884 4; have hfz19_0 := blk_frozen BK884.out 0; have hfz19_1 := blk_frozen BK884.out 1; have hfz19_2 := blk_frozen BK884.out 2; have hfz19_3 := blk_frozen BK884.out 3; have hfz19_4 := blk_frozen BK884.out 4) | ((with_reducible refine gate_callee (f := 43) rfl ?_); refine goesL_ (some 20) rfl rfl Try.func43 (by kernel_rfl) rfl #[.agg #[.int .i64 a0_0, .int .i64 a0_1, .int .i64 a0_2, .int .i64 a0_3, .slice A0_4 l0_4.length c0_4], .int .i64 a2, .int .i64 a3] rfl sm_ ?_; (with_reducible refine (impl_MakerAsk.calls k a0_0 a0_1 a0_2 a0_3 _ _ l0_4 a2 a3 t894 t895 _ ?side1 ?side2 A7.out).mono ?_); (case side1 => exact Kd.C_below HR0_4.out (hb_ HB.out)); (case side2 => exact HC0_4.out); rintro e w20 ⟨rfl, hb⟩; refine ⟨_, rfl, ?_⟩; replace HO892 := Aside0.mk (Kd.R_below (rk_ HO892.out BK893.out) hb); replace BK884 := Aside0.mk (blk_below (g := gb884) (o := .cells #[.int .i64 a0_0, .int .i64 a0_1, .int .i64 a0_2, .int .i64 a0_3, .slice A0_4 l0_4.length c0_4] 38 (0, 0)) (bf_ NB884_893.out BK884.out) hb); replace BK885 := Aside0.mk (blk_below (g := gb885) (o := .cells #[.int .i64 0, .int .i64 0, .int .i64 0, .int .i64 0, .slice none 0 0] 38 (0, 0)) (bf_ NB885_893.out BK885.out) hb); replace BK893 := Aside0.mk (blk_below (g := gb893) (o := .cells #[.int .i64 t886, .int .i64 t887, .int .i64 t888, .int .i64 t889, .slice Ao18 t890.length co18] 38 (0, 0)) (bp_ BK893.out) hb); replace HB := ch_ HB hb; (try clear hb); (try clear hb2); (try clear hk); (try clear hi)))
 (try simp only [Act.put, List.setIfInBounds_toArray, List.set_cons_zero, List.set_cons_succ])
 go_cut [] (fun wc => ∃ (kq : Nat) (x886000_7 : Int) (x886001_7 : Int) (x886002_7 : Int) (x886003_7 : Int), Aside0 (impl_MakerPut.j0 kq a1 a2 a3 a4 a0_0 a0_1 a0_2 a0_3 l0_4 t886 t887 t888 t889 t890 = some (r1, r2, r3, r4, r5)) ∧ Aside0 (kq ≤ k) ∧ Aside0 (Kd.R k_Mark 110 wc w.heap.size (fun _ => True) (.slice Ao18 t890.length co18) t890) ∧ Aside0 (wc.heap[gb884]? = some (.cells #[.int .i64 a0_0, .int .i64 a0_1, .int .i64 a0_2, .int .i64 a0_3, (.slice A0_4 l0_4.length c0_4)] 38 (0, 0))) ∧ Aside0 (wc.heap[gb885]? = some (.cells #[.int .i64 x886000_7, .int .i64 x886001_7, .int .i64 x886002_7, .int .i64 x886003_7, (.slice none 0 0)] 38 (0, 0))) ∧ Aside0 (wc.heap[gb893]? = some (.cells #[.int .i64 t886, .int .i64 t887, .int .i64 t888, .int .i64 t889, (.slice Ao18 t890.length co18)] 38 (0, 0))) ∧ Aside0 (Below w.heap.size w wc))
 case first =>
  have H := HC8.out
  clear HC8
  by_cases c21 : t894 = 0
  ·
   rw [if_pos c21] at H
   have c21b0 : (t894 == 0) = true := beq_iff_eq.mpr c21
   have c21b1 : (t894 != 0) = false := bne_eq_false_iff_eq.mpr c21
   clear c21
   (first | rw [c21b0] | (simp only [i64_w, i32_w]; rw [c21b0]) | rw [c21b4] | rw [c21b3] | skip)
   have H' := Aside0.mk H
   clear H
   go_wp2
   go_meet
   case rel => exact ⟨_, (0), (0), (0), (0), H', ⟨qd16_⟩, ⟨rq_ HO892.out⟩, ⟨bq_ BK884.out⟩, ⟨bq_ BK885.out⟩, ⟨bq_ BK893.out⟩, ⟨hb_ HB.out⟩⟩
  ·
   rw [if_neg c21] at H
   have c21b0 : (t894 == 0) = false := beq_eq_false_iff_ne.mpr c21
   have c21b1 : (t894 != 0) = true := bne_iff_ne.mpr c21
   (first | rw [c21b0] | (simp only [i64_w, i32_w]; rw [c21b0]) | rw [c21b4] | rw [c21b3] | skip)
   simp only [Option.some.injEq, Prod.mk.injEq] at H
   obtain ⟨rfl, rfl, rfl, rfl, rfl⟩ := H
   have hnb22 := NB893_884.out
   have hnc22 := NB884_893.out
   have hnb23 := NB893_885.out
   have hnc23 := NB885_893.out
   have hcz24_0 : w20.cell? ⟨gb893, 0, none⟩ = some (.int .i64 t886) := bc_ BK893 0
   have hcz24_1 : w20.cell? ⟨gb893, 1, none⟩ = some (.int .i64 t887) := bc_ BK893 1
   have hcz24_2 : w20.cell? ⟨gb893, 2, none⟩ = some (.int .i64 t888) := bc_ BK893 2
   have hcz24_3 : w20.cell? ⟨gb893, 3, none⟩ = some (.int .i64 t889) := bc_ BK893 3
   have hcz24_4 : w20.cell? ⟨gb893, 4, none⟩ = some (.slice Ao18 t890.length co18) := bc_ BK893 4
   have hfz24_0 := blk_frozen BK893.out 0
   have hfz24_1 := blk_frozen BK893.out 1
   have hfz24_2 := blk_frozen BK893.out 2
   have hfz24_3 := blk_frozen BK893.out 3
   have hfz24_4 := blk_frozen BK893.out 4
   have hnb25 := NB885_884.out
   have hnc25 := NB884_885.out
   have hcz26_0 : w20.cell? ⟨gb885, 0, none⟩ = some (.int .i64 0) := bc_ BK885 0
   have hcz26_1 : w20.cell? ⟨gb885, 1, none⟩ = some (.int .i64 0) := bc_ BK885 1
   have hcz26_2 : w20.cell? ⟨gb885, 2, none⟩ = some (.int .i64 0) := bc_ BK885 2
   have hcz26_3 : w20.cell? ⟨gb885, 3, none⟩ = some (.int .i64 0) := bc_ BK885 3
   have hcz26_4 : w20.cell? ⟨gb885, 4, none⟩ = some (.slice none 0 0) := bc_ BK885 4
   have hfz26_0 := blk_frozen BK885.out 0
   have hfz26_1 := blk_frozen BK885.out 1
   have hfz26_2 := blk_frozen BK885.out 2
   have hfz26_3 := blk_frozen BK885.out 3
   have hfz26_4 := blk_frozen BK885.out 4
   go_wp2
   refine bodyPost_ret (results_cell_row rfl _ _ gb885 38 #[.int .i64 t886, .int .i64 t887, .int .i64 t888, .int .i64 t889, .slice Ao18 t890.length co18] (0, 0) _ rfl (bp_ BK885.out) Try.underlying38 rfl (by kernel_rfl)) rfl ?_
   exact ⟨_, er_, by (with_reducible repeat (first | apply Kd.R_alloc | apply Kd.R_drewN | apply Kd.R_drew)); exact Kd.R_mono (Kd.R_far (p := ⟨gb885, 4, none⟩) (Kd.R_far (p := ⟨gb885, 3, none⟩) (Kd.R_far (p := ⟨gb885, 2, none⟩) (Kd.R_far (p := ⟨gb885, 1, none⟩) (Kd.R_far (p := ⟨gb885, 0, none⟩) (Kd.R_types HO892.out BK885.out (by decide)) (fun _ hk => hk.2) (.int .i64 t886)) (fun _ hk => hk.2) (.int .i64 t887)) (fun _ hk => hk.2) (.int .i64 t888)) (fun _ hk => hk.2) (.int .i64 t889)) (fun _ hk => hk.2) (.slice Ao18 t890.length co18)) (fun _ hk => trivial), hb_ HB.out⟩
 case rest =>
  clear HC8
  (try clear hcz12_0); (try clear hcz12_1); (try clear hcz12_2); (try clear hcz12_3); (try clear hcz12_4); (try clear hcz17_0); (try clear hcz17_1); (try clear hcz17_2); (try clear hcz17_3); (try clear hcz17_4); (try clear hcz19_0); (try clear hcz19_1); (try clear hcz19_2); (try clear hcz19_3); (try clear hcz19_4); (try clear hfz12_0); (try clear hfz12_1); (try clear hfz12_2); (try clear hfz12_3); (try clear hfz12_4); (try clear hfz17_0); (try clear hfz17_1); (try clear hfz17_2); (try clear hfz17_3); (try clear hfz17_4); (try clear hfz19_0); (try clear hfz19_1); (try clear hfz19_2); (try clear hfz19_3); (try clear hfz19_4)
  obtain ⟨kq, x886000_7, x886001_7, x886002_7, x886003_7, HA, HJ7, HO_894004, BK884, BK885, BK893, HB⟩ := hcut
  cases kq with
  | zero => exact absurd HA.out (by simp [impl_MakerPut.j0])
  | succ kj7 =>
   have H := HA.out
   clear HA
   simp only [impl_MakerPut.j0] at H
   by_cases c27 : a2 > a0_2
   ·
    rw [if_pos c27] at H
    have c27b0 : decide (a0_2 < a2) = true := decide_eq_true c27
    clear c27
    by_cases c28 : ([] : List (S_Mark)).length < 8796093022208
    ·
     rw [if_pos c28] at H
     have LMc28 := Aside0.mk c28
     clear c28
     obtain ⟨y896, hy896⟩ : ∃ y_ : List (S_Mark), y_ = (([] : List (S_Mark)) ++ [(⟨a3, a4⟩ : S_Mark)]) := ⟨_, rfl⟩
     replace H : (if 0 ≤ (mx (wrap64 ((y896.length : Int) - (mx a1 0))) 0) then (if (mx (wrap64 ((y896.length : Int) - (mx a1 0))) 0) ≤ (y896.length : Int) then ((some (y896.drop ((mx (wrap64 ((y896.length : Int) - (mx a1 0))) 0) : Int).toNat : List (S_Mark))).bind fun y899 => (if ([] : List (S_Mark)).length + y899.length < 8796093022208 then (some (t886, t887, a2, a3, (([] : List (S_Mark)) ++ y899))) else (none))) else (none)) else (none)) = some (r1, r2, r3, r4, r5) := by first | (rw [hy896]; with_reducible exact H) | (have H2_ := (Option.bind_some _ _).symm.trans H; rw [hy896]; with_reducible exact H2_) | (have H2_ := (Option.bind_some _ _).symm.trans H; with_reducible exact H2_) | with_reducible exact H | (rw [hy896]; exact H) | exact H
     have Ny896 := Aside0.mk hy896
     clear hy896
     obtain ⟨ji29, hji29⟩ : ∃ j_ : Int, (mx a1 0) = j_ := ⟨_, rfl⟩
     replace H : (if 0 ≤ (mx (wrap64 ((y896.length : Int) - (ji29))) 0) then (if (mx (wrap64 ((y896.length : Int) - (ji29))) 0) ≤ (y896.length : Int) then ((some (y896.drop ((mx (wrap64 ((y896.length : Int) - (ji29))) 0) : Int).toNat : List (S_Mark))).bind fun y899 => (if ([] : List (S_Mark)).length + y899.length < 8796093022208 then (some (t886, t887, a2, a3, (([] : List (S_Mark)) ++ y899))) else (none))) else (none)) else (none)) = some (r1, r2, r3, r4, r5) := by first | (rw [hji29] at H; exact H) | (simp only [hji29] at H ⊢; exact H)
     (try (have hji29l : 0 ≤ ji29 := by (rw [← hji29]; unfold mx; (repeat' split) <;> omega)))
     (try (have hji29m : 0 ≤ ji29 := by omega))
     have hji29_ : (if a1 < 0 then 0 else a1) = ji29 := hji29
     obtain ⟨ji30, hji30⟩ : ∃ j_ : Int, (mx (wrap64 ((y896.length : Int) - (ji29))) 0) = j_ := ⟨_, rfl⟩
     replace H : (if 0 ≤ (ji30) then (if (ji30) ≤ (y896.length : Int) then ((some (y896.drop ((ji30) : Int).toNat : List (S_Mark))).bind fun y899 => (if ([] : List (S_Mark)).length + y899.length < 8796093022208 then (some (t886, t887, a2, a3, (([] : List (S_Mark)) ++ y899))) else (none))) else (none)) else (none)) = some (r1, r2, r3, r4, r5) := by first | (rw [hji30] at H; exact H) | (simp only [hji30] at H ⊢; exact H)
     have hji30_ : (if (wrap64 ((y896.length : Int) - (ji29))) < 0 then 0 else (wrap64 ((y896.length : Int) - (ji29)))) = ji30 := hji30
     by_cases c31 : 0 ≤ (ji30)
     ·
      rw [if_pos c31] at H
      have c31b0 := eq_true c31
      have c31b1 : decide (0 ≤ (ji30)) = true := decide_eq_true c31
      clear c31
      by_cases c32 : (ji30) ≤ (y896.length : Int)
      ·
       rw [if_pos c32] at H
       have c32b0 := eq_true c32
       have c32b1 : decide ((ji30) ≤ (y896.length : Int)) = true := decide_eq_true c32
       clear c32
       obtain ⟨y899, hy899⟩ : ∃ y_ : List (S_Mark), y_ = (y896.drop ((ji30) : Int).toNat) := ⟨_, rfl⟩
       replace H : (if ([] : List (S_Mark)).length + y899.length < 8796093022208 then (some (t886, t887, a2, a3, (([] : List (S_Mark)) ++ y899))) else (none)) = some (r1, r2, r3, r4, r5) := by first | (rw [hy899]; with_reducible exact H) | (have H2_ := (Option.bind_some _ _).symm.trans H; rw [hy899]; with_reducible exact H2_) | (have H2_ := (Option.bind_some _ _).symm.trans H; with_reducible exact H2_) | with_reducible exact H | (rw [hy899]; exact H) | exact H
       have Ny899 := Aside0.mk hy899
       clear hy899
       by_cases c33 : ([] : List (S_Mark)).length + y899.length < 8796093022208
       ·
        rw [if_pos c33] at H
        have LMc33 := Aside0.mk c33
        clear c33
        obtain ⟨y903, hy903⟩ : ∃ y_ : List (S_Mark), y_ = (([] : List (S_Mark)) ++ y899) := ⟨_, rfl⟩
        replace H : (some (t886, t887, a2, a3, y903)) = some (r1, r2, r3, r4, r5) := by first | (rw [hy903]; with_reducible exact H) | (have H2_ := (Option.bind_some _ _).symm.trans H; rw [hy903]; with_reducible exact H2_) | (have H2_ := (Option.bind_some _ _).symm.trans H; with_reducible exact H2_) | with_reducible exact H | (rw [hy903]; exact H) | exact H
        have Ny903 := Aside0.mk hy903
        clear hy903
        simp only [Option.some.injEq, Prod.mk.injEq] at H
        obtain ⟨rfl, rfl, rfl, rfl, rfl⟩ := H
        have hnb34 := NB884_885.out
        have hnc34 := NB885_884.out
        have hnb35 := NB884_893.out
        have hnc35 := NB893_884.out
        have hcz36_0 : wc.cell? ⟨gb884, 0, none⟩ = some (.int .i64 a0_0) := bc_ BK884 0
        have hcz36_1 : wc.cell? ⟨gb884, 1, none⟩ = some (.int .i64 a0_1) := bc_ BK884 1
        have hcz36_2 : wc.cell? ⟨gb884, 2, none⟩ = some (.int .i64 a0_2) := bc_ BK884 2
        have hcz36_3 : wc.cell? ⟨gb884, 3, none⟩ = some (.int .i64 a0_3) := bc_ BK884 3
        have hcz36_4 : wc.cell? ⟨gb884, 4, none⟩ = some (.slice A0_4 l0_4.length c0_4) := bc_ BK884 4
        have hfz36_0 := blk_frozen BK884.out 0
        have hfz36_1 := blk_frozen BK884.out 1
        have hfz36_2 := blk_frozen BK884.out 2
        have hfz36_3 := blk_frozen BK884.out 3
        have hfz36_4 := blk_frozen BK884.out 4
        have hnb37 := NB893_885.out
        have hnc37 := NB885_893.out
        have hcz38_0 : wc.cell? ⟨gb893, 0, none⟩ = some (.int .i64 t886) := bc_ BK893 0
        have hcz38_1 : wc.cell? ⟨gb893, 1, none⟩ = some (.int .i64 t887) := bc_ BK893 1
        have hcz38_2 : wc.cell? ⟨gb893, 2, none⟩ = some (.int .i64 t888) := bc_ BK893 2
        have hcz38_3 : wc.cell? ⟨gb893, 3, none⟩ = some (.int .i64 t889) := bc_ BK893 3
        have hcz38_4 : wc.cell? ⟨gb893, 4, none⟩ = some (.slice Ao18 t890.length co18) := bc_ BK893 4
        have hfz38_0 := blk_frozen BK893.out 0
        have hfz38_1 := blk_frozen BK893.out 1
        have hfz38_2 := blk_frozen BK893.out 2
        have hfz38_3 := blk_frozen BK893.out 3
        have hfz38_4 := blk_frozen BK893.out 4
        go_wp2_with (first | ((with_reducible refine gate_builtin (b := .append) (xs := #[.tmp 36, .tmp 40]) rfl ?_); at_builtin; refine Kd.R_append k_Mark (w0 := w) w.heap.size rfl (.tmp 36) (.tmp 40) 36 110 (.agg #[(.int .i64 0), (.int .i64 0)]) 16 rfl Try.underlying36 info110 rfl (by decide) (by omega) (.slice none 0 0) ([] : List (S_Mark)) (⟨a3, a4⟩ : S_Mark) [.int .i64 a3, .int .i64 a4] (fun k_ => some k_ ≠ (.slice Ao18 t890.length co18 : Value).ownBlock) (fun _ => False) rfl (by first | (go_simp; done) | (go_simp; rfl)) ?aP (fun _ hk => hk.elim) ?aF ?aO ?aB ?aS ?aL ?_; (case aP => exact k_Mark_mkM _ _ _ (⟨a3, a4⟩ : S_Mark)); (case aB => exact (hb_ HB.out)); (case aF => exact (fun k_ hk => Kd.fresh' (Kd.R_lt (rk_ HO_894004.out BK893.out)) k_ hk)); (case aO => exact ((Kd.R_nil _ _ _ _ (fun k_ => some k_ ≠ (.slice Ao18 t890.length co18 : Value).ownBlock)))); (case aS => exact (below_size (hb_ HB.out))); (case aL => have := LMc28.out; omega); intro v897 w39 ho hb hg hat; rw [← Ny896.out] at ho; have HO898 := Aside0.mk (ho); replace HO_894004 := Aside0.mk (Kd.R_after (Kd.R_apart_nil (rk_ HO_894004.out BK893.out)) hg hat); replace BK884 := Aside0.mk (blk_grown (g := gb884) (o := .cells #[.int .i64 a0_0, .int .i64 a0_1, .int .i64 a0_2, .int .i64 a0_3, .slice A0_4 l0_4.length c0_4] 38 (0, 0)) (bf_ NB884_893.out BK884.out) hg (by simp [Value.ownBlock])); replace BK885 := Aside0.mk (blk_grown (g := gb885) (o := .cells #[.int .i64 x886000_7, .int .i64 x886001_7, .int .i64 x886002_7, .int .i64 x886003_7, .slice none 0 0] 38 (0, 0)) (bf_ NB885_893.out BK885.out) hg (by simp [Value.ownBlock])); replace BK893 := Aside0.mk (blk_grown (g := gb893) (o := .cells #[.int .i64 t886, .int .i64 t887, .int .i64 a2, .int .i64 a3, .slice none 0 0] 38 (0, 0)) (bp_ BK893.out) hg (by simp [Value.ownBlock])); replace HB := Aside0.mk (hb); clear ho hb hg hat; obtain ⟨Ao40, co40, eo40⟩ := Kd.R_slice HO898.out; subst eo40; have hcz41_0 : w39.cell? ⟨gb893, 0, none⟩ = some (.int .i64 t886) := bc_ BK893 0; have hcz41_1 : w39.cell? ⟨gb893, 1, none⟩ = some (.int .i64 t887) := bc_ BK893 1; have hcz41_2 : w39.cell? ⟨gb893, 2, none⟩ = some (.int .i64 a2) := bc_ BK893 2; have hcz41_3 : w39.cell? ⟨gb893, 3, none⟩ = some (.int .i64 a3) := bc_ BK893 3; have hcz41_4 : w39.cell? ⟨gb893, 4, none⟩ = some (.slice none 0 0) := bc_ BK893 4; have hfz41_0 := blk_frozen BK893.out 0; have hfz41_1 := blk_frozen BK893.out 1; have hfz41_2 := blk_frozen BK893.out 2; have hfz41_3 := blk_frozen BK893.out 3; have hfz41_4 := blk_frozen BK893.out 4) | ((with_reducible refine gate_store (t := 36) (p := 42) rfl ?_); refine store_event (t := 36) (p := 42) (v := ?vo_w42) (w1 := (w39.setCell ⟨gb893, 4, none⟩ (.slice Ao40 y896.length co40))) ?hg ?ho ?hn ?hr ?_; (case ho => rfl); (case hg => rfl); (case hn => rfl); (case hr => first | (go_simp; done) | (go_simp; rfl)); intro w42 hw; have n0_ : Aside0 (Kd.R k_Mark 110 w42 w.heap.size (fun k_ => some k_ ≠ (.slice Ao40 y896.length co40 : Value).ownBlock) (.slice Ao18 t890.length co18) t890) := ⟨(by rw [hw]; exact (by (with_reducible repeat (first | apply Kd.R_alloc | apply Kd.R_drewN | apply Kd.R_drew)); exact Kd.R_mono (Kd.R_far (p := ⟨gb893, 4, none⟩) (Kd.R_types HO_894004.out BK893.out (by decide)) (fun _ hk => hk.2) (.slice Ao40 y896.length co40)) (fun _ hk => hk.1.2)))⟩; have n1_ : Aside0 (Kd.R k_Mark 110 w42 w.heap.size (fun k_ => some k_ ≠ (.slice Ao18 t890.length co18 : Value).ownBlock) (.slice Ao40 y896.length co40) y896) := ⟨(by rw [hw]; exact (by (with_reducible repeat (first | apply Kd.R_alloc | apply Kd.R_drewN | apply Kd.R_drew)); exact Kd.R_mono (Kd.R_far (p := ⟨gb893, 4, none⟩) (Kd.R_types HO898.out BK893.out (by decide)) (fun _ hk => hk.2) (.slice Ao40 y896.length co40)) (fun _ hk => hk.1)))⟩; have n2_ : Aside0 (w42.heap[gb884]? = some (.cells #[.int .i64 a0_0, .int .i64 a0_1, .int .i64 a0_2, .int .i64 a0_3, .slice A0_4 l0_4.length c0_4] 38 (0, 0))) := ⟨(by rw [hw]; exact (bf_ NB884_893.out BK884.out))⟩; have n3_ : Aside0 (w42.heap[gb885]? = some (.cells #[.int .i64 x886000_7, .int .i64 x886001_7, .int .i64 x886002_7, .int .i64 x886003_7, .slice none 0 0] 38 (0, 0))) := ⟨(by rw [hw]; exact (bf_ NB885_893.out BK885.out))⟩; have n4_ : Aside0 (w42.heap[gb893]? = some (.cells #[.int .i64 t886, .int .i64 t887, .int .i64 a2, .int .i64 a3, .slice Ao40 y896.length co40] 38 (0, 0))) := ⟨(by rw [hw]; exact (bp_ BK893.out))⟩; have n5_ : Aside0 (Below w.heap.size w w42) := ⟨(by rw [hw]; exact (hb_ HB.out))⟩; clear hw; clear HO_894004; clear HO898; clear BK884; clear BK885; clear BK893; clear HB; have HO_894004 := n0_; have HO898 := n1_; have BK884 := n2_; have BK885 := n3_; have BK893 := n4_; have HB := n5_; clear n0_ n1_ n2_ n3_ n4_ n5_; have hcz43_0 : w42.cell? ⟨gb893, 0, none⟩ = some (.int .i64 t886) := bc_ BK893 0; have hcz43_1 : w42.cell? ⟨gb893, 1, none⟩ = some (.int .i64 t887) := bc_ BK893 1; have hcz43_2 : w42.cell? ⟨gb893, 2, none⟩ = some (.int .i64 a2) := bc_ BK893 2; have hcz43_3 : w42.cell? ⟨gb893, 3, none⟩ = some (.int .i64 a3) := bc_ BK893 3; have hcz43_4 : w42.cell? ⟨gb893, 4, none⟩ = some (.slice Ao40 y896.length co40) := bc_ BK893 4; have hfz43_0 := blk_frozen BK893.out 0; have hfz43_1 := blk_frozen BK893.out 1; have hfz43_2 := blk_frozen BK893.out 2; have hfz43_3 := blk_frozen BK893.out 3; have hfz43_4 := blk_frozen BK893.out 4; have q44 : ((ji30) : Int) ≤ ((y896.length : Int) : Int) := of_decide_eq_true dt_; obtain ⟨i044, hi044, _, hsz44, _⟩ := info_parts info110; have hroom44 : y896.length ≤ co40 := (Kd.R_reads' HO898.out).2.1; have hC44 : Kd.C k_Mark _ Ao40 y896.length y896 := (Kd.R_reads' HO898.out).2.2; have q044 : (0 : Int) ≤ ((ji30) : Int) := of_decide_eq_true dt_; have hcut44 := cut_from (P := Try.prog) 36 110 .i64 Try.underlying36 hi044 2 hsz44 Ao40 y896.length co40 (ji30) q044 q44; have hr44 := Kd.C_drop (m := ((ji30) : Int).toNat) (c := co40) hC44 (by omega) hroom44; obtain ⟨A44, hA44⟩ : ∃ A1, A1 = (if co40 = ((ji30) : Int).toNat then Ao40 else (Ao40 : Option Addr).map (·.add (((ji30) : Int).toNat * 2))) := ⟨_, rfl⟩; obtain ⟨c44, hc44⟩ : ∃ c1, c1 = co40 - ((ji30) : Int).toNat := ⟨_, rfl⟩; have hy44 : y899.length = y896.length - ((ji30) : Int).toNat := (by rw [Ny899.out, List.length_drop] <;> omega); rw [show (y896).drop ((ji30) : Int).toNat = y899 from Ny899.out.symm] at hr44; replace hr44 : Kd.C k_Mark _ A44 y899.length y899 := (by rw [hA44]; exact hr44); rw [← hy44, ← hA44, ← hc44] at hcut44; have HR902 := Aside0.mk hr44; have HC902 := Aside0.mk (show y899.length ≤ c44 from by rw [hy44, hc44]; exact Nat.sub_le_sub_right hroom44 _); clear hr44 hC44 hroom44 hi044 hsz44 hc44; have KY44 := Aside0.mk hy44; have KA44 := Aside0.mk hA44; clear hy44 hA44; have KL44 := Aside0.mk (show ((ji30) : Int).toNat ≤ y896.length from by omega); replace q44 := eq_true q44) | ((with_reducible refine gate_builtin (b := .append) (xs := #[.const (.slice none 0 0), .tmp 52]) rfl ?_); at_builtin; refine Kd.R_append_rows k_Mark (w0 := w) w.heap.size rfl (.const (.slice none 0 0)) (.tmp 52) 36 110 (.agg #[(.int .i64 0), (.int .i64 0)]) 16 rfl Try.underlying36 info110 rfl (by decide) (by omega) (.slice none 0 0) ([] : List (S_Mark)) y899 _ _ _ (fun k_ => some k_ ≠ (.slice Ao18 t890.length co18 : Value).ownBlock ∧ some k_ ≠ (.slice Ao40 y896.length co40 : Value).ownBlock) (fun _ => False) rfl rfl ?aO ?aR (fun _ _ h => h) (fun _ h => h.elim) ?aF ?aB ?aS ?aL ?_; (case aR => repeat (first | exact (by repeat (first | (with_reducible exact HR902.out) | (with_reducible refine Kd.C_alloc ?_ _) | (with_reducible refine Kd.C_drewN ?_ _) | (with_reducible refine Kd.C_drew ?_) | exact HR902.out)) | (with_reducible refine Kd.C_alloc ?_ _) | (with_reducible refine Kd.C_drewN ?_ _) | (with_reducible refine Kd.C_drew ?_))); (case aB => exact (hb_ HB.out)); (case aF => exact (fun k_ hk => ⟨Kd.fresh' (Kd.R_lt (rq_ HO_894004.out)) k_ hk, Kd.fresh' (Kd.R_lt (rq_ HO898.out)) k_ hk⟩)); (case aO => exact ((Kd.R_nil _ _ _ _ (fun k_ => some k_ ≠ (.slice Ao18 t890.length co18 : Value).ownBlock ∧ some k_ ≠ (.slice Ao40 y896.length co40 : Value).ownBlock)))); (case aS => exact (below_size (hb_ HB.out))); (case aL => have := LMc33.out; omega); intro v904 w45 ho hb hg hat; rw [← Ny903.out] at ho; have HO905 := Aside0.mk (ho); replace HO_894004 := Aside0.mk (Kd.R_after (Kd.R_apart_nil (rq_ HO_894004.out)) hg hat); replace BK884 := Aside0.mk (blk_grown (g := gb884) (o := .cells #[.int .i64 a0_0, .int .i64 a0_1, .int .i64 a0_2, .int .i64 a0_3, .slice A0_4 l0_4.length c0_4] 38 (0, 0)) (bq_ BK884.out) hg (by simp [Value.ownBlock])); replace BK885 := Aside0.mk (blk_grown (g := gb885) (o := .cells #[.int .i64 x886000_7, .int .i64 x886001_7, .int .i64 x886002_7, .int .i64 x886003_7, .slice none 0 0] 38 (0, 0)) (bq_ BK885.out) hg (by simp [Value.ownBlock])); replace BK893 := Aside0.mk (blk_grown (g := gb893) (o := .cells #[.int .i64 t886, .int .i64 t887, .int .i64 a2, .int .i64 a3, .slice Ao40 y896.length co40] 38 (0, 0)) (bq_ BK893.out) hg (by simp [Value.ownBlock])); replace HB := Aside0.mk (hb); replace HR902 := Aside0.mk ((show Kd.C k_Mark w45 A44 y899.length y899 from by rw [Ny899.out, KA44.out]; exact Kd.C_drop (m := ((ji30) : Int).toNat) (c := co40) ((Kd.R_reads' (Kd.R_after (Kd.R_apart_nil (rq_ HO898.out)) hg hat)).2.2) KL44.out ((Kd.R_reads' (Kd.R_after (Kd.R_apart_nil (rq_ HO898.out)) hg hat)).2.1))); replace HO898 := Aside0.mk (Kd.R_after (Kd.R_apart_nil (rq_ HO898.out)) hg hat); clear ho hb hg hat; obtain ⟨Ao46, co46, eo46⟩ := Kd.R_slice HO905.out; subst eo46; have hcz47_0 : w45.cell? ⟨gb893, 0, none⟩ = some (.int .i64 t886) := bc_ BK893 0; have hcz47_1 : w45.cell? ⟨gb893, 1, none⟩ = some (.int .i64 t887) := bc_ BK893 1; have hcz47_2 : w45.cell? ⟨gb893, 2, none⟩ = some (.int .i64 a2) := bc_ BK893 2; have hcz47_3 : w45.cell? ⟨gb893, 3, none⟩ = some (.int .i64 a3) := bc_ BK893 3; have hcz47_4 : w45.cell? ⟨gb893, 4, none⟩ = some (.slice Ao40 y896.length co40) := bc_ BK893 4; have hfz47_0 := blk_frozen BK893.out 0; have hfz47_1 := blk_frozen BK893.out 1; have hfz47_2 := blk_frozen BK893.out 2; have hfz47_3 := blk_frozen BK893.out 3; have hfz47_4 := blk_frozen BK893.out 4; have hcz48_0 : w45.cell? ⟨gb885, 0, none⟩ = some (.int .i64 x886000_7) := bc_ BK885 0; have hcz48_1 : w45.cell? ⟨gb885, 1, none⟩ = some (.int .i64 x886001_7) := bc_ BK885 1; have hcz48_2 : w45.cell? ⟨gb885, 2, none⟩ = some (.int .i64 x886002_7) := bc_ BK885 2; have hcz48_3 : w45.cell? ⟨gb885, 3, none⟩ = some (.int .i64 x886003_7) := bc_ BK885 3; have hcz48_4 : w45.cell? ⟨gb885, 4, none⟩ = some (.slice none 0 0) := bc_ BK885 4; have hfz48_0 := blk_frozen BK885.out 0; have hfz48_1 := blk_frozen BK885.out 1; have hfz48_2 := blk_frozen BK885.out 2; have hfz48_3 := blk_frozen BK885.out 3; have hfz48_4 := blk_frozen BK885.out 4))
        refine bodyPost_ret (results_cell_row rfl _ _ gb885 38 #[.int .i64 t886, .int .i64 t887, .int .i64 a2, .int .i64 a3, .slice Ao46 y903.length co46] (0, 0) _ rfl (by_ BK885.out) Try.underlying38 rfl (by kernel_rfl)) rfl ?_
        exact ⟨_, by first | rfl | (simp [errW_none, errW_some] <;> rfl) | (simp only [← hji29, ← hji30]; first | rfl | (simp [errW_none, errW_some] <;> rfl)) | (simp [*, errW_none, errW_some] <;> rfl), by (with_reducible repeat (first | apply Kd.R_alloc | apply Kd.R_drewN | apply Kd.R_drew)); exact Kd.R_mono (Kd.R_far (p := ⟨gb885, 4, none⟩) (Kd.R_far (p := ⟨gb885, 3, none⟩) (Kd.R_far (p := ⟨gb885, 2, none⟩) (Kd.R_far (p := ⟨gb885, 1, none⟩) (Kd.R_far (p := ⟨gb885, 0, none⟩) (Kd.R_far (p := ⟨gb893, 4, none⟩) (Kd.R_types (Kd.R_types HO905.out BK893.out (by decide)) BK885.out (by decide)) (fun _ hk => hk.1.2) (.slice Ao46 y903.length co46)) (fun _ hk => hk.2) (.int .i64 t886)) (fun _ hk => hk.2) (.int .i64 t887)) (fun _ hk => hk.2) (.int .i64 a2)) (fun _ hk => hk.2) (.int .i64 a3)) (fun _ hk => hk.2) (.slice Ao46 y903.length co46)) (fun _ hk => trivial), hb_ HB.out⟩
       ·
        rw [if_neg c33] at H
        exact absurd H (by simp)
      ·
       rw [if_neg c32] at H
       exact absurd H (by simp)
     ·
      rw [if_neg c31] at H
      exact absurd H (by simp)
    ·
     rw [if_neg c28] at H
     exact absurd H (by simp)
   ·
    rw [if_neg c27] at H
    have c27b0 : decide (a0_2 < a2) = false := decide_eq_false c27
    clear c27
    by_cases c49 : t890.length < 8796093022208
    ·
     rw [if_pos c49] at H
     have LMc49 := Aside0.mk c49
     clear c49
     obtain ⟨y906, hy906⟩ : ∃ y_ : List (S_Mark), y_ = (t890 ++ [(⟨a3, a4⟩ : S_Mark)]) := ⟨_, rfl⟩
     replace H : (if 0 ≤ (mx (wrap64 ((y906.length : Int) - (mx a1 0))) 0) then (if (mx (wrap64 ((y906.length : Int) - (mx a1 0))) 0) ≤ (y906.length : Int) then ((some (y906.drop ((mx (wrap64 ((y906.length : Int) - (mx a1 0))) 0) : Int).toNat : List (S_Mark))).bind fun y909 => (if ([] : List (S_Mark)).length + y909.length < 8796093022208 then (some (t886, t887, a2, a3, (([] : List (S_Mark)) ++ y909))) else (none))) else (none)) else (none)) = some (r1, r2, r3, r4, r5) := by first | (rw [hy906]; with_reducible exact H) | (have H2_ := (Option.bind_some _ _).symm.trans H; rw [hy906]; with_reducible exact H2_) | (have H2_ := (Option.bind_some _ _).symm.trans H; with_reducible exact H2_) | with_reducible exact H | (rw [hy906]; exact H) | exact H
     have Ny906 := Aside0.mk hy906
     clear hy906
     obtain ⟨ji50, hji50⟩ : ∃ j_ : Int, (mx a1 0) = j_ := ⟨_, rfl⟩
     replace H : (if 0 ≤ (mx (wrap64 ((y906.length : Int) - (ji50))) 0) then (if (mx (wrap64 ((y906.length : Int) - (ji50))) 0) ≤ (y906.length : Int) then ((some (y906.drop ((mx (wrap64 ((y906.length : Int) - (ji50))) 0) : Int).toNat : List (S_Mark))).bind fun y909 => (if ([] : List (S_Mark)).length + y909.length < 8796093022208 then (some (t886, t887, a2, a3, (([] : List (S_Mark)) ++ y909))) else (none))) else (none)) else (none)) = some (r1, r2, r3, r4, r5) := by first | (rw [hji50] at H; exact H) | (simp only [hji50] at H ⊢; exact H)
     (try (have hji50l : 0 ≤ ji50 := by (rw [← hji50]; unfold mx; (repeat' split) <;> omega)))
     (try (have hji50m : 0 ≤ ji50 := by omega))
     have hji50_ : (if a1 < 0 then 0 else a1) = ji50 := hji50
     obtain ⟨ji51, hji51⟩ : ∃ j_ : Int, (mx (wrap64 ((y906.length : Int) - (ji50))) 0) = j_ := ⟨_, rfl⟩
     replace H : (if 0 ≤ (ji51) then (if (ji51) ≤ (y906.length : Int) then ((some (y906.drop ((ji51) : Int).toNat : List (S_Mark))).bind fun y909 => (if ([] : List (S_Mark)).length + y909.length < 8796093022208 then (some (t886, t887, a2, a3, (([] : List (S_Mark)) ++ y909))) else (none))) else (none)) else (none)) = some (r1, r2, r3, r4, r5) := by first | (rw [hji51] at H; exact H) | (simp only [hji51] at H ⊢; exact H)
     have hji51_ : (if (wrap64 ((y906.length : Int) - (ji50))) < 0 then 0 else (wrap64 ((y906.length : Int) - (ji50)))) = ji51 := hji51
     by_cases c52 : 0 ≤ (ji51)
     ·
      rw [if_pos c52] at H
      have c52b0 := eq_true c52
      have c52b1 : decide (0 ≤ (ji51)) = true := decide_eq_true c52
      clear c52
      by_cases c53 : (ji51) ≤ (y906.length : Int)
      ·
       rw [if_pos c53] at H
       have c53b0 := eq_true c53
       have c53b1 : decide ((ji51) ≤ (y906.length : Int)) = true := decide_eq_true c53
       clear c53
       obtain ⟨y909, hy909⟩ : ∃ y_ : List (S_Mark), y_ = (y906.drop ((ji51) : Int).toNat) := ⟨_, rfl⟩
       replace H : (if ([] : List (S_Mark)).length + y909.length < 8796093022208 then (some (t886, t887, a2, a3, (([] : List (S_Mark)) ++ y909))) else (none)) = some (r1, r2, r3, r4, r5) := by first | (rw [hy909]; with_reducible exact H) | (have H2_ := (Option.bind_some _ _).symm.trans H; rw [hy909]; with_reducible exact H2_) | (have H2_ := (Option.bind_some _ _).symm.trans H; with_reducible exact H2_) | with_reducible exact H | (rw [hy909]; exact H) | exact H
       have Ny909 := Aside0.mk hy909
       clear hy909
       by_cases c54 : ([] : List (S_Mark)).length + y909.length < 8796093022208
       ·
        rw [if_pos c54] at H
        have LMc54 := Aside0.mk c54
        clear c54
        obtain ⟨y913, hy913⟩ : ∃ y_ : List (S_Mark), y_ = (([] : List (S_Mark)) ++ y909) := ⟨_, rfl⟩
        replace H : (some (t886, t887, a2, a3, y913)) = some (r1, r2, r3, r4, r5) := by first | (rw [hy913]; with_reducible exact H) | (have H2_ := (Option.bind_some _ _).symm.trans H; rw [hy913]; with_reducible exact H2_) | (have H2_ := (Option.bind_some _ _).symm.trans H; with_reducible exact H2_) | with_reducible exact H | (rw [hy913]; exact H) | exact H
        have Ny913 := Aside0.mk hy913
        clear hy913
        simp only [Option.some.injEq, Prod.mk.injEq] at H
        obtain ⟨rfl, rfl, rfl, rfl, rfl⟩ := H
        have hnb55 := NB884_885.out
        have hnc55 := NB885_884.out
        have hnb56 := NB884_893.out
        have hnc56 := NB893_884.out
        have hcz57_0 : wc.cell? ⟨gb884, 0, none⟩ = some (.int .i64 a0_0) := bc_ BK884 0
        have hcz57_1 : wc.cell? ⟨gb884, 1, none⟩ = some (.int .i64 a0_1) := bc_ BK884 1
        have hcz57_2 : wc.cell? ⟨gb884, 2, none⟩ = some (.int .i64 a0_2) := bc_ BK884 2
        have hcz57_3 : wc.cell? ⟨gb884, 3, none⟩ = some (.int .i64 a0_3) := bc_ BK884 3
        have hcz57_4 : wc.cell? ⟨gb884, 4, none⟩ = some (.slice A0_4 l0_4.length c0_4) := bc_ BK884 4
        have hfz57_0 := blk_frozen BK884.out 0
        have hfz57_1 := blk_frozen BK884.out 1
        have hfz57_2 := blk_frozen BK884.out 2
        have hfz57_3 := blk_frozen BK884.out 3
        have hfz57_4 := blk_frozen BK884.out 4
        have hnb58 := NB893_885.out
        have hnc58 := NB885_893.out
        have hcz59_0 : wc.cell? ⟨gb893, 0, none⟩ = some (.int .i64 t886) := bc_ BK893 0
        have hcz59_1 : wc.cell? ⟨gb893, 1, none⟩ = some (.int .i64 t887) := bc_ BK893 1
        have hcz59_2 : wc.cell? ⟨gb893, 2, none⟩ = some (.int .i64 t888) := bc_ BK893 2
        have hcz59_3 : wc.cell? ⟨gb893, 3, none⟩ = some (.int .i64 t889) := bc_ BK893 3
        have hcz59_4 : wc.cell? ⟨gb893, 4, none⟩ = some (.slice Ao18 t890.length co18) := bc_ BK893 4
        have hfz59_0 := blk_frozen BK893.out 0
        have hfz59_1 := blk_frozen BK893.out 1
        have hfz59_2 := blk_frozen BK893.out 2
        have hfz59_3 := blk_frozen BK893.out 3
        have hfz59_4 := blk_frozen BK893.out 4
        go_wp2_with (first | ((with_reducible refine gate_builtin (b := .append) (xs := #[.tmp 36, .tmp 40]) rfl ?_); at_builtin; refine Kd.R_append k_Mark (w0 := w) w.heap.size rfl (.tmp 36) (.tmp 40) 36 110 (.agg #[(.int .i64 0), (.int .i64 0)]) 16 rfl Try.underlying36 info110 rfl (by decide) (by omega) (.slice Ao18 t890.length co18) t890 (⟨a3, a4⟩ : S_Mark) [.int .i64 a3, .int .i64 a4] (fun _ => True) (fun _ => False) rfl (by first | (go_simp; done) | (go_simp; rfl)) ?aP (fun _ hk => hk.elim) ?aF ?aO ?aB ?aS ?aL ?_; (case aP => exact k_Mark_mkM _ _ _ (⟨a3, a4⟩ : S_Mark)); (case aB => exact (hb_ HB.out)); (case aF => exact (fun _ _ => trivial)); (case aO => exact (by (with_reducible repeat (first | apply Kd.R_alloc | apply Kd.R_drewN | apply Kd.R_drew)); exact Kd.R_mono (Kd.R_far (p := ⟨gb893, 3, none⟩) (Kd.R_far (p := ⟨gb893, 2, none⟩) (Kd.R_types HO_894004.out BK893.out (by decide)) (fun _ hk => hk.2) (.int .i64 a2)) (fun _ hk => hk.2) (.int .i64 a3)) (fun _ hk => trivial))); (case aS => exact (below_size (hb_ HB.out))); (case aL => have := LMc49.out; omega); intro v907 w60 ho hb hg hat; rw [← Ny906.out] at ho; have HO908 := Aside0.mk (ho); replace BK884 := Aside0.mk (blk_grown (g := gb884) (o := .cells #[.int .i64 a0_0, .int .i64 a0_1, .int .i64 a0_2, .int .i64 a0_3, .slice A0_4 l0_4.length c0_4] 38 (0, 0)) (bf_ NB884_893.out BK884.out) hg (Kd.R_ne HO_894004.out BK884.out (by decide))); replace BK885 := Aside0.mk (blk_grown (g := gb885) (o := .cells #[.int .i64 x886000_7, .int .i64 x886001_7, .int .i64 x886002_7, .int .i64 x886003_7, .slice none 0 0] 38 (0, 0)) (bf_ NB885_893.out BK885.out) hg (Kd.R_ne HO_894004.out BK885.out (by decide))); replace BK893 := Aside0.mk (blk_grown (g := gb893) (o := .cells #[.int .i64 t886, .int .i64 t887, .int .i64 a2, .int .i64 a3, .slice Ao18 t890.length co18] 38 (0, 0)) (bp_ BK893.out) hg (Kd.R_ne HO_894004.out BK893.out (by decide))); replace HB := Aside0.mk (hb); clear HO_894004; clear ho hb hg hat; obtain ⟨Ao61, co61, eo61⟩ := Kd.R_slice HO908.out; subst eo61; have hcz62_0 : w60.cell? ⟨gb893, 0, none⟩ = some (.int .i64 t886) := bc_ BK893 0; have hcz62_1 : w60.cell? ⟨gb893, 1, none⟩ = some (.int .i64 t887) := bc_ BK893 1; have hcz62_2 : w60.cell? ⟨gb893, 2, none⟩ = some (.int .i64 a2) := bc_ BK893 2; have hcz62_3 : w60.cell? ⟨gb893, 3, none⟩ = some (.int .i64 a3) := bc_ BK893 3; have hcz62_4 : w60.cell? ⟨gb893, 4, none⟩ = some (.slice Ao18 t890.length co18) := bc_ BK893 4; have hfz62_0 := blk_frozen BK893.out 0; have hfz62_1 := blk_frozen BK893.out 1; have hfz62_2 := blk_frozen BK893.out 2; have hfz62_3 := blk_frozen BK893.out 3; have hfz62_4 := blk_frozen BK893.out 4) | ((with_reducible refine gate_store (t := 36) (p := 42) rfl ?_); refine store_event (t := 36) (p := 42) (v := ?vo_w63) (w1 := (w60.setCell ⟨gb893, 4, none⟩ (.slice Ao61 y906.length co61))) ?hg ?ho ?hn ?hr ?_; (case ho => rfl); (case hg => rfl); (case hn => rfl); (case hr => first | (go_simp; done) | (go_simp; rfl)); intro w63 hw; have n0_ : Aside0 (Kd.R k_Mark 110 w63 w.heap.size (fun _ => True) (.slice Ao61 y906.length co61) y906) := ⟨(by rw [hw]; exact (by (with_reducible repeat (first | apply Kd.R_alloc | apply Kd.R_drewN | apply Kd.R_drew)); exact Kd.R_mono (Kd.R_far (p := ⟨gb893, 4, none⟩) (Kd.R_types HO908.out BK893.out (by decide)) (fun _ hk => hk.2) (.slice Ao61 y906.length co61)) (fun _ hk => trivial)))⟩; have n1_ : Aside0 (w63.heap[gb884]? = some (.cells #[.int .i64 a0_0, .int .i64 a0_1, .int .i64 a0_2, .int .i64 a0_3, .slice A0_4 l0_4.length c0_4] 38 (0, 0))) := ⟨(by rw [hw]; exact (bf_ NB884_893.out BK884.out))⟩; have n2_ : Aside0 (w63.heap[gb885]? = some (.cells #[.int .i64 x886000_7, .int .i64 x886001_7, .int .i64 x886002_7, .int .i64 x886003_7, .slice none 0 0] 38 (0, 0))) := ⟨(by rw [hw]; exact (bf_ NB885_893.out BK885.out))⟩; have n3_ : Aside0 (w63.heap[gb893]? = some (.cells #[.int .i64 t886, .int .i64 t887, .int .i64 a2, .int .i64 a3, .slice Ao61 y906.length co61] 38 (0, 0))) := ⟨(by rw [hw]; exact (bp_ BK893.out))⟩; have n4_ : Aside0 (Below w.heap.size w w63) := ⟨(by rw [hw]; exact (hb_ HB.out))⟩; clear hw; clear HO908; clear BK884; clear BK885; clear BK893; clear HB; have HO908 := n0_; have BK884 := n1_; have BK885 := n2_; have BK893 := n3_; have HB := n4_; clear n0_ n1_ n2_ n3_ n4_; have hcz64_0 : w63.cell? ⟨gb893, 0, none⟩ = some (.int .i64 t886) := bc_ BK893 0; have hcz64_1 : w63.cell? ⟨gb893, 1, none⟩ = some (.int .i64 t887) := bc_ BK893 1; have hcz64_2 : w63.cell? ⟨gb893, 2, none⟩ = some (.int .i64 a2) := bc_ BK893 2; have hcz64_3 : w63.cell? ⟨gb893, 3, none⟩ = some (.int .i64 a3) := bc_ BK893 3; have hcz64_4 : w63.cell? ⟨gb893, 4, none⟩ = some (.slice Ao61 y906.length co61) := bc_ BK893 4; have hfz64_0 := blk_frozen BK893.out 0; have hfz64_1 := blk_frozen BK893.out 1; have hfz64_2 := blk_frozen BK893.out 2; have hfz64_3 := blk_frozen BK893.out 3; have hfz64_4 := blk_frozen BK893.out 4; have q65 : ((ji51) : Int) ≤ ((y906.length : Int) : Int) := of_decide_eq_true dt_; obtain ⟨i065, hi065, _, hsz65, _⟩ := info_parts info110; have hroom65 : y906.length ≤ co61 := (Kd.R_reads' HO908.out).2.1; have hC65 : Kd.C k_Mark _ Ao61 y906.length y906 := (Kd.R_reads' HO908.out).2.2; have q065 : (0 : Int) ≤ ((ji51) : Int) := of_decide_eq_true dt_; have hcut65 := cut_from (P := Try.prog) 36 110 .i64 Try.underlying36 hi065 2 hsz65 Ao61 y906.length co61 (ji51) q065 q65; have hr65 := Kd.C_drop (m := ((ji51) : Int).toNat) (c := co61) hC65 (by omega) hroom65; obtain ⟨A65, hA65⟩ : ∃ A1, A1 = (if co61 = ((ji51) : Int).toNat then Ao61 else (Ao61 : Option Addr).map (·.add (((ji51) : Int).toNat * 2))) := ⟨_, rfl⟩; obtain ⟨c65, hc65⟩ : ∃ c1, c1 = co61 - ((ji51) : Int).toNat := ⟨_, rfl⟩; have hy65 : y909.length = y906.length - ((ji51) : Int).toNat := (by rw [Ny909.out, List.length_drop] <;> omega); rw [show (y906).drop ((ji51) : Int).toNat = y909 from Ny909.out.symm] at hr65; replace hr65 : Kd.C k_Mark _ A65 y909.length y909 := (by rw [hA65]; exact hr65); rw [← hy65, ← hA65, ← hc65] at hcut65; have HR912 := Aside0.mk hr65; have HC912 := Aside0.mk (show y909.length ≤ c65 from by rw [hy65, hc65]; exact Nat.sub_le_sub_right hroom65 _); clear hr65 hC65 hroom65 hi065 hsz65 hc65; have KY65 := Aside0.mk hy65; have KA65 := Aside0.mk hA65; clear hy65 hA65; have KL65 := Aside0.mk (show ((ji51) : Int).toNat ≤ y906.length from by omega); replace q65 := eq_true q65) | ((with_reducible refine gate_builtin (b := .append) (xs := #[.const (.slice none 0 0), .tmp 52]) rfl ?_); at_builtin; refine Kd.R_append_rows k_Mark (w0 := w) w.heap.size rfl (.const (.slice none 0 0)) (.tmp 52) 36 110 (.agg #[(.int .i64 0), (.int .i64 0)]) 16 rfl Try.underlying36 info110 rfl (by decide) (by omega) (.slice none 0 0) ([] : List (S_Mark)) y909 _ _ _ (fun k_ => some k_ ≠ (.slice Ao61 y906.length co61 : Value).ownBlock) (fun _ => False) rfl rfl ?aO ?aR (fun _ _ h => h) (fun _ h => h.elim) ?aF ?aB ?aS ?aL ?_; (case aR => repeat (first | exact (by repeat (first | (with_reducible exact HR912.out) | (with_reducible refine Kd.C_alloc ?_ _) | (with_reducible refine Kd.C_drewN ?_ _) | (with_reducible refine Kd.C_drew ?_) | exact HR912.out)) | (with_reducible refine Kd.C_alloc ?_ _) | (with_reducible refine Kd.C_drewN ?_ _) | (with_reducible refine Kd.C_drew ?_))); (case aB => exact (hb_ HB.out)); (case aF => exact (fun k_ hk => Kd.fresh' (Kd.R_lt (rq_ HO908.out)) k_ hk)); (case aO => exact ((Kd.R_nil _ _ _ _ (fun k_ => some k_ ≠ (.slice Ao61 y906.length co61 : Value).ownBlock)))); (case aS => exact (below_size (hb_ HB.out))); (case aL => have := LMc54.out; omega); intro v914 w66 ho hb hg hat; rw [← Ny913.out] at ho; have HO915 := Aside0.mk (ho); replace BK884 := Aside0.mk (blk_grown (g := gb884) (o := .cells #[.int .i64 a0_0, .int .i64 a0_1, .int .i64 a0_2, .int .i64 a0_3, .slice A0_4 l0_4.length c0_4] 38 (0, 0)) (bq_ BK884.out) hg (by simp [Value.ownBlock])); replace BK885 := Aside0.mk (blk_grown (g := gb885) (o := .cells #[.int .i64 x886000_7, .int .i64 x886001_7, .int .i64 x886002_7, .int .i64 x886003_7, .slice none 0 0] 38 (0, 0)) (bq_ BK885.out) hg (by simp [Value.ownBlock])); replace BK893 := Aside0.mk (blk_grown (g := gb893) (o := .cells #[.int .i64 t886, .int .i64 t887, .int .i64 a2, .int .i64 a3, .slice Ao61 y906.length co61] 38 (0, 0)) (bq_ BK893.out) hg (by simp [Value.ownBlock])); replace HB := Aside0.mk (hb); replace HR912 := Aside0.mk ((show Kd.C k_Mark w66 A65 y909.length y909 from by rw [Ny909.out, KA65.out]; exact Kd.C_drop (m := ((ji51) : Int).toNat) (c := co61) ((Kd.R_reads' (Kd.R_after (Kd.R_apart_nil (rq_ HO908.out)) hg hat)).2.2) KL65.out ((Kd.R_reads' (Kd.R_after (Kd.R_apart_nil (rq_ HO908.out)) hg hat)).2.1))); replace HO908 := Aside0.mk (Kd.R_after (Kd.R_apart_nil (rq_ HO908.out)) hg hat); clear ho hb hg hat; obtain ⟨Ao67, co67, eo67⟩ := Kd.R_slice HO915.out; subst eo67; have hcz68_0 : w66.cell? ⟨gb893, 0, none⟩ = some (.int .i64 t886) := bc_ BK893 0; have hcz68_1 : w66.cell? ⟨gb893, 1, none⟩ = some (.int .i64 t887) := bc_ BK893 1; have hcz68_2 : w66.cell? ⟨gb893, 2, none⟩ = some (.int .i64 a2) := bc_ BK893 2; have hcz68_3 : w66.cell? ⟨gb893, 3, none⟩ = some (.int .i64 a3) := bc_ BK893 3; have hcz68_4 : w66.cell? ⟨gb893, 4, none⟩ = some (.slice Ao61 y906.length co61) := bc_ BK893 4; have hfz68_0 := blk_frozen BK893.out 0; have hfz68_1 := blk_frozen BK893.out 1; have hfz68_2 := blk_frozen BK893.out 2; have hfz68_3 := blk_frozen BK893.out 3; have hfz68_4 := blk_frozen BK893.out 4; have hcz69_0 : w66.cell? ⟨gb885, 0, none⟩ = some (.int .i64 x886000_7) := bc_ BK885 0; have hcz69_1 : w66.cell? ⟨gb885, 1, none⟩ = some (.int .i64 x886001_7) := bc_ BK885 1; have hcz69_2 : w66.cell? ⟨gb885, 2, none⟩ = some (.int .i64 x886002_7) := bc_ BK885 2; have hcz69_3 : w66.cell? ⟨gb885, 3, none⟩ = some (.int .i64 x886003_7) := bc_ BK885 3; have hcz69_4 : w66.cell? ⟨gb885, 4, none⟩ = some (.slice none 0 0) := bc_ BK885 4; have hfz69_0 := blk_frozen BK885.out 0; have hfz69_1 := blk_frozen BK885.out 1; have hfz69_2 := blk_frozen BK885.out 2; have hfz69_3 := blk_frozen BK885.out 3; have hfz69_4 := blk_frozen BK885.out 4))
        refine bodyPost_ret (results_cell_row rfl _ _ gb885 38 #[.int .i64 t886, .int .i64 t887, .int .i64 a2, .int .i64 a3, .slice Ao67 y913.length co67] (0, 0) _ rfl (by_ BK885.out) Try.underlying38 rfl (by kernel_rfl)) rfl ?_
        exact ⟨_, by first | rfl | (simp [errW_none, errW_some] <;> rfl) | (simp only [← hji50, ← hji51]; first | rfl | (simp [errW_none, errW_some] <;> rfl)) | (simp [*, errW_none, errW_some] <;> rfl), by (with_reducible repeat (first | apply Kd.R_alloc | apply Kd.R_drewN | apply Kd.R_drew)); exact Kd.R_mono (Kd.R_far (p := ⟨gb885, 4, none⟩) (Kd.R_far (p := ⟨gb885, 3, none⟩) (Kd.R_far (p := ⟨gb885, 2, none⟩) (Kd.R_far (p := ⟨gb885, 1, none⟩) (Kd.R_far (p := ⟨gb885, 0, none⟩) (Kd.R_far (p := ⟨gb893, 4, none⟩) (Kd.R_types (Kd.R_types HO915.out BK893.out (by decide)) BK885.out (by decide)) (fun _ hk => hk.1.2) (.slice Ao67 y913.length co67)) (fun _ hk => hk.2) (.int .i64 t886)) (fun _ hk => hk.2) (.int .i64 t887)) (fun _ hk => hk.2) (.int .i64 a2)) (fun _ hk => hk.2) (.int .i64 a3)) (fun _ hk => hk.2) (.slice Ao67 y913.length co67)) (fun _ hk => trivial), hb_ HB.out⟩
       ·
        rw [if_neg c54] at H
        exact absurd H (by simp)
      ·
       rw [if_neg c53] at H
       exact absurd H (by simp)
     ·
      rw [if_neg c52] at H
      exact absurd H (by simp)
    ·
     rw [if_neg c49] at H
     exact absurd H (by simp)
/-! ### spec_l4DrawList: function 77 -/
def spec_l4DrawList.l0 : Nat → List (S_Maker) → Int → List Int → Int → Int → Option ((List (S_Maker)) × Int × Int)
  | 0, _, _, _, _, _ => none
  | k + 1, x3, x4, x1000, x1001, x1002 => (spec_l1Below.f x1000 x1001 x1002 5).bind fun bt919 => (if x4 < bt919.1 then ((spec_l4Draw.f k x1000 bt919.2.1 bt919.2.2).bind fun bt922 => ((spec_MakerSet.f k x3 bt922.1 bt922.2.1 bt922.2.2.1 bt922.2.2.2.1 bt922.2.2.2.2.1).bind fun t931 => (spec_l4DrawList.l0 k t931 (wrap64 (x4 + 1)) x1000 bt922.2.2.2.2.2.1 bt922.2.2.2.2.2.2))) else (some (x3, bt919.2.1, bt919.2.2)))
def spec_l4DrawList.f (k : Nat) (s0_0 : List Int) (s0_1 : Int) (s0_2 : Int) : Option ((List (S_Maker)) × Int × Int) := spec_l4DrawList.l0 k (([] : List (S_Maker))) 0 s0_0 s0_1 s0_2
theorem spec_l4DrawList.mono_l : ∀ k, (∀ y0 y1 y2 y3 y4, LeO (spec_l4DrawList.l0 k y0 y1 y2 y3 y4) (spec_l4DrawList.l0 (k + 1) y0 y1 y2 y3 y4))
  | 0 => fun _ _ _ _ _ r h => by simp [spec_l4DrawList.l0] at h
  | k + 1 => by
    have ih0 := spec_l4DrawList.mono_l k
    · intro y0 y1 y2 y3 y4
      unfold spec_l4DrawList.l0
      exact qdh1_
theorem spec_l4DrawList.mono : ∀ a0 a1 a2 k, LeO (spec_l4DrawList.f k a0 a1 a2) (spec_l4DrawList.f (k + 1) a0 a1 a2) := by
  intro a0 a1 a2 k
  have ih0 := spec_l4DrawList.mono_l k
  unfold spec_l4DrawList.f
  exact qdh1_
set_option maxHeartbeats 8000000 in
set_option maxRecDepth 100000 in
theorem spec_l4DrawList.calls (k : Nat) (g : Nat) (s0_0 : List Int) (s0_1 : Int) (s0_2 : Int) (r1 : List (S_Maker)) (r2 : Int) (r3 : Int) (w0 w : World) (hI : IsS_l1Cur w0 w g s0_0 s0_1 s0_2) (hB : Below w0.heap.size w0 w) (h : spec_l4DrawList.f k s0_0 s0_1 s0_2 = some (r1, r2, r3)) :
    Calls Try.prog 77 #[.pointer (some ⟨g, 0, none⟩)] w fun e w' => ∃ v0_ : Value, e = .returned (v0_) ∧ Kd.S k_Maker 38 w' w.heap.size (fun _ => True) v0_ r1 ∧ IsS_l1Cur w0 w' g s0_0 r2 r3 ∧ Below w0.heap.size w0 w' ∧ KeepBut w w' g none := by
  have HI0 := Aside0.mk hI
  have HK := Aside0.mk (KeepBut.refl w g none)
  have HL := Aside0.mk hB.size
  clear hI
  have HW0 := Aside0.mk hB.size
  have HB := Aside0.mk hB
  clear hB
  have H : (spec_l4DrawList.l0 k (([] : List (S_Maker))) 0 s0_0 s0_1 s0_2) = some (r1, r2, r3) := h
  clear h
  obtain ⟨y916, hy916⟩ : ∃ y_ : List (S_Maker), y_ = (([] : List (S_Maker))) := ⟨_, rfl⟩
  replace H : (spec_l4DrawList.l0 k y916 0 s0_0 s0_1 s0_2) = some (r1, r2, r3) := by first | (rw [hy916]; with_reducible exact H) | (have H2_ := (Option.bind_some _ _).symm.trans H; rw [hy916]; with_reducible exact H2_) | (have H2_ := (Option.bind_some _ _).symm.trans H; with_reducible exact H2_) | with_reducible exact H | (rw [hy916]; exact H) | exact H
  have Ny916 := Aside0.mk hy916
  clear hy916
  have H' := Aside0.mk H
  clear H
  go_enter Try.func77, Try.ntmps77
  go_wp2_with (first | ((with_reducible refine gate_dst (N := 5) rfl ?_); refine Kd.S_lit k_Maker _ 38 ?hg (N := 5) ?hd (xs := ([] : List (S_Maker))) (inner := []) (ok := fun _ => True) (okp := fun _ => True) ?hr ?hp (fun _ hk => hk) trivial (Below.refl _ _) (Nat.le_refl _) (by simp) ?_; (case hd => rfl); (case hg => rfl); (case hr => first | (go_simp; done) | (go_simp; rfl)); (case hp => exact (Reps.none _ _)); intro v917 w2 ho3 hb hg_ hnew_; clear hg_ hnew_; (first | rw [← Ny916.out] at ho3 | (simp only [Int.reduceToNat] at ho3; rw [← Ny916.out] at ho3)); have HO918 := Aside0.mk (Kd.S_lower ho3 (keep_size (w := w) (g := g) (row := none) (qd2_))); replace HK := Aside0.mk (KeepBut.trans (qd2_) (KeepBut.of_below hb g none) (.inl rfl)); replace HB := Aside0.mk (below_step (qd5_) hb); replace HI0 := Aside0.mk (IsS_l1Cur.below (qd4_) hb); clear hb ho3))
  go_loopg [3, 4] k (fun kq v3 v4 w' => ∃ (x3_1 : List (S_Maker)) (x4_1 : Int) (x1001_1 : Int) (x1002_1 : Int), v4 = .int .i64 x4_1 ∧ Aside0 (spec_l4DrawList.l0 kq x3_1 x4_1 s0_0 x1001_1 x1002_1 = some (r1, r2, r3)) ∧ Aside0 (kq ≤ k) ∧ Aside0 (Kd.S k_Maker 38 w' w.heap.size (fun _ => True) v3 x3_1) ∧ Aside0 (IsS_l1Cur w0 w' g s0_0 x1001_1 x1002_1) ∧ Aside0 (KeepBut w w' g none) ∧ Aside0 (Below w0.heap.size w0 w'))
  case atStart => exact ⟨(y916), (0), (s0_1), (s0_2), (qd11_), H', ⟨Nat.le_refl _⟩, ⟨by (with_reducible repeat (first | apply Kd.S_alloc | apply Kd.S_drewN | apply Kd.S_drew)); exact HO918.out⟩, ⟨qd4_⟩, ⟨qd2_⟩, ⟨qd5_⟩⟩
  case round =>
    clear H'
    try clear p2
    obtain ⟨x3_1, x4_1, x1001_1, x1002_1, rfl, HA, HK1, HO_3, HI0, HK, HB⟩ := hrel
    cases gk with
    | zero => exact absurd HA.out (by simp [spec_l4DrawList.l0])
    | succ k1 =>
      have H := HA.out
      clear HA
      simp only [spec_l4DrawList.l0] at H
      replace H := Option.bind_eq_some_iff.mp H
      obtain ⟨⟨t919, t920, t921⟩, A40, H⟩ := H
      replace H : (if x4_1 < t919 then ((spec_l4Draw.f k1 s0_0 t920 t921).bind fun bt922 => ((spec_MakerSet.f k1 x3_1 bt922.1 bt922.2.1 bt922.2.2.1 bt922.2.2.2.1 bt922.2.2.2.2.1).bind fun t931 => (spec_l4DrawList.l0 k1 t931 (wrap64 (x4_1 + 1)) s0_0 bt922.2.2.2.2.2.1 bt922.2.2.2.2.2.2))) else (some (x3_1, t920, t921))) = some (r1, r2, r3) := H
      have A4 := Aside0.mk A40
      clear A40
      by_cases c5 : x4_1 < t919
      · rw [if_pos c5] at H
        have c5b0 : decide (x4_1 < t919) = true := decide_eq_true c5
        clear c5
        replace H := Option.bind_eq_some_iff.mp H
        obtain ⟨⟨t922, t923, t924, t925, t926, t929, t930⟩, A60, H⟩ := H
        replace H : ((spec_MakerSet.f k1 x3_1 t922 t923 t924 t925 t926).bind fun t931 => (spec_l4DrawList.l0 k1 t931 (wrap64 (x4_1 + 1)) s0_0 t929 t930)) = some (r1, r2, r3) := H
        have A6 := Aside0.mk A60
        clear A60
        replace H := Option.bind_eq_some_iff.mp H
        obtain ⟨t931, A70, H⟩ := H
        replace H : (spec_l4DrawList.l0 k1 t931 (wrap64 (x4_1 + 1)) s0_0 t929 t930) = some (r1, r2, r3) := H
        have A7 := Aside0.mk A70
        clear A70
        have H' := Aside0.mk H
        clear H
        go_wp2_with (first | ((with_reducible refine gate_callee (f := 76) rfl ?_); refine goesL_ (some 8) rfl rfl Try.func76 (by kernel_rfl) rfl #[.pointer (some ⟨g, 0, none⟩), .int .i64 5] rfl (qd0_) ?_; (with_reducible refine (spec_l1Below.calls g s0_0 x1001_1 x1002_1 5 t919 t920 t921 w0 _ ?side1 ?side2 A4.out).mono ?_); (case side1 => repeat (first | (with_reducible first | exact HI0.out | apply IsS_l1Cur.alloc | apply IsS_l1Cur.drewN | apply IsS_l1Cur.drew | apply IsS_l1Cur.set_1 | apply IsS_l1Cur.set_2) | exact HI0.out)); (case side2 => repeat (first | (with_reducible first | exact HB.out | apply below_alloc | apply pw_below_drewN | apply below_drew1 | refine below_set ?_ (IsS_l1Cur.ge HI0.out)) | exact HB.out)); rintro e w8 ⟨rfl, hi, hb, hk⟩; refine ⟨_, rfl, ?_⟩; replace HO_3 := Aside0.mk (Kd.S_mono (Kd.S_keep (IsS_l1Cur.apartS (show IsS_l1Cur w0 _ g s0_0 x1001_1 x1002_1 from by repeat (first | (with_reducible first | exact HI0.out | apply IsS_l1Cur.alloc | apply IsS_l1Cur.drewN | apply IsS_l1Cur.drew | apply IsS_l1Cur.set_1 | apply IsS_l1Cur.set_2) | exact HI0.out)) (qd8_) (by decide)) hk (fun _ h => h.2)) (fun _ h => h.1)); replace HK := Aside0.mk (KeepBut.trans (qd2_) hk (.inl rfl)); replace HB := Aside0.mk (hb); replace HI0 := Aside0.mk (hi); (try clear hb); (try clear hb2); (try clear hk); (try clear hi)) | ((with_reducible refine gate_callee (f := 73) rfl ?_); refine goesL_ (some 14) rfl rfl Try.func73 (by kernel_rfl) rfl #[.pointer (some ⟨g, 0, none⟩)] rfl (qd0_) ?_; (with_reducible refine (spec_l4Draw.calls k1 g s0_0 t920 t921 t922 t923 t924 t925 t926 t929 t930 w0 _ ?side1 ?side2 A6.out).mono ?_); (case side1 => repeat (first | (with_reducible first | exact HI0.out | apply IsS_l1Cur.alloc | apply IsS_l1Cur.drewN | apply IsS_l1Cur.drew | apply IsS_l1Cur.set_1 | apply IsS_l1Cur.set_2) | exact HI0.out)); (case side2 => repeat (first | (with_reducible first | exact HB.out | apply below_alloc | apply pw_below_drewN | apply below_drew1 | refine below_set ?_ (IsS_l1Cur.ge HI0.out)) | exact HB.out)); rintro e w9 ⟨v927, rfl, ho0, hi, hb, hk⟩; refine ⟨_, rfl, ?_⟩; have HO928 := Aside0.mk (Kd.R_lower ho0 (keep_size (w := w) (g := g) (row := none) (qd2_))); replace HO_3 := Aside0.mk (Kd.S_mono (Kd.S_told (Kd.S_oldK (IsS_l1Cur.apartS (show IsS_l1Cur w0 _ g s0_0 t920 t921 from by repeat (first | (with_reducible first | exact HI0.out | apply IsS_l1Cur.alloc | apply IsS_l1Cur.drewN | apply IsS_l1Cur.drew | apply IsS_l1Cur.set_1 | apply IsS_l1Cur.set_2) | exact HI0.out)) (qd8_) (by decide)) hk) (Kd.R_base ho0)) (fun _ h_ => h_.1)); replace HK := Aside0.mk (KeepBut.trans (qd2_) hk (.inl rfl)); replace HB := Aside0.mk (hb); replace HI0 := Aside0.mk (hi); (try clear hb); (try clear hb2); (try clear hk); (try clear hi); (try clear ho0); obtain ⟨Ao10, co10, eo10⟩ := Kd.S_slice HO_3.out; subst eo10; obtain ⟨Ao11, co11, eo11⟩ := Kd.R_slice HO928.out; subst eo11) | ((with_reducible refine gate_callee (f := 25) rfl ?_); refine goesL_ (some 15) rfl rfl Try.func25 (by kernel_rfl) rfl #[.slice Ao10 x3_1.length co10, .agg #[.int .i64 t922, .int .i64 t923, .int .i64 t924, .int .i64 t925, .slice Ao11 t926.length co11]] rfl (qd0_) ?_; (with_reducible refine (spec_MakerSet.calls k1 _ _ x3_1 t922 t923 t924 t925 _ _ t926 t931 _ ?side1 ?side2 ?side3 ?side4 A7.out).mono ?_); (case side1 => repeat (first | exact (Kd.S_reads' HO_3.out).2.2 | (with_reducible refine Kd.C_alloc ?_ _) | (with_reducible refine Kd.C_drewN ?_ _) | (with_reducible refine Kd.C_drew ?_))); (case side2 => exact (Kd.S_reads' HO_3.out).2.1); (case side3 => repeat (first | exact (Kd.R_reads' HO928.out).2.2 | (with_reducible refine Kd.C_alloc ?_ _) | (with_reducible refine Kd.C_drewN ?_ _) | (with_reducible refine Kd.C_drew ?_))); (case side4 => exact (Kd.R_reads' HO928.out).2.1); rintro e w12 ⟨v932, rfl, ho0, hb⟩; refine ⟨_, rfl, ?_⟩; have HO933 := Aside0.mk (Kd.S_lower (Kd.S_new' (Kd.S_new' ho0 (Kd.S_lt (qd8_))) (Kd.R_lt (by (with_reducible repeat (first | apply Kd.R_alloc | apply Kd.R_drewN | apply Kd.R_drew)); exact HO928.out))) (keep_size (w := w) (g := g) (row := none) (qd2_))); replace HO_3 := Aside0.mk (Kd.S_elder' (qd8_) (Kd.S_base ho0) hb); replace HO928 := Aside0.mk (Kd.R_below (by (with_reducible repeat (first | apply Kd.R_alloc | apply Kd.R_drewN | apply Kd.R_drew)); exact HO928.out) hb); replace HK := Aside0.mk (KeepBut.trans (qd2_) (KeepBut.of_below hb g none) (.inl rfl)); replace HB := Aside0.mk (below_step (qd5_) hb); replace HI0 := Aside0.mk (IsS_l1Cur.below (qd4_) hb); (try clear hb); (try clear hb2); (try clear hk); (try clear hi); (try clear ho0)))
        go_roundg k1
        case measure => have := HK1.out; omega
        case rel => exact ⟨(t931), (wrap64 (x4_1 + 1)), (t929), (t930), (qd11_), H', ⟨by have := HK1.out; omega⟩, ⟨by (with_reducible repeat (first | apply Kd.S_alloc | apply Kd.S_drewN | apply Kd.S_drew)); exact Kd.S_mono HO933.out (fun _ hk => trivial)⟩, ⟨qd4_⟩, ⟨qd2_⟩, ⟨qd5_⟩⟩
      · rw [if_neg c5] at H
        have c5b0 : decide (x4_1 < t919) = false := decide_eq_false c5
        clear c5
        simp only [Option.some.injEq, Prod.mk.injEq] at H
        obtain ⟨rfl, rfl, rfl⟩ := H
        go_wp2_with (first | ((with_reducible refine gate_callee (f := 76) rfl ?_); refine goesL_ (some 8) rfl rfl Try.func76 (by kernel_rfl) rfl #[.pointer (some ⟨g, 0, none⟩), .int .i64 5] rfl (qd0_) ?_; (with_reducible refine (spec_l1Below.calls g s0_0 x1001_1 x1002_1 5 t919 t920 t921 w0 _ ?side1 ?side2 A4.out).mono ?_); (case side1 => repeat (first | (with_reducible first | exact HI0.out | apply IsS_l1Cur.alloc | apply IsS_l1Cur.drewN | apply IsS_l1Cur.drew | apply IsS_l1Cur.set_1 | apply IsS_l1Cur.set_2) | exact HI0.out)); (case side2 => repeat (first | (with_reducible first | exact HB.out | apply below_alloc | apply pw_below_drewN | apply below_drew1 | refine below_set ?_ (IsS_l1Cur.ge HI0.out)) | exact HB.out)); rintro e w13 ⟨rfl, hi, hb, hk⟩; refine ⟨_, rfl, ?_⟩; replace HO_3 := Aside0.mk (Kd.S_mono (Kd.S_keep (IsS_l1Cur.apartS (show IsS_l1Cur w0 _ g s0_0 x1001_1 x1002_1 from by repeat (first | (with_reducible first | exact HI0.out | apply IsS_l1Cur.alloc | apply IsS_l1Cur.drewN | apply IsS_l1Cur.drew | apply IsS_l1Cur.set_1 | apply IsS_l1Cur.set_2) | exact HI0.out)) (qd8_) (by decide)) hk (fun _ h => h.2)) (fun _ h => h.1)); replace HK := Aside0.mk (KeepBut.trans (qd2_) hk (.inl rfl)); replace HB := Aside0.mk (hb); replace HI0 := Aside0.mk (hi); (try clear hb); (try clear hb2); (try clear hk); (try clear hi)))
        go_ret
        exact ⟨_, qd7_, qd8_, qd4_, qd5_, qd2_⟩

/-! ### spec_DrawMakerSet: function 36 -/
def spec_DrawMakerSet.f (k : Nat) (l0 : List Int) : Option ((List (S_Maker)) × Int × Int × Int × Int × (List (S_Mark))) := (spec_l1New.f k l0).bind fun bt935 => ((spec_l4DrawList.f k bt935.1 bt935.2.1 bt935.2.2).bind fun bt939 => ((spec_l4Draw.f k bt935.1 bt939.2.1 bt939.2.2).bind fun bt944 => (some (bt939.1, bt944.1, bt944.2.1, bt944.2.2.1, bt944.2.2.2.1, bt944.2.2.2.2.1))))
theorem spec_DrawMakerSet.mono : ∀ a0 k, LeO (spec_DrawMakerSet.f k a0) (spec_DrawMakerSet.f (k + 1) a0) := by
  intro a0 k
  unfold spec_DrawMakerSet.f
  repeat' first
      | (with_reducible exact spec_l1New.mono _ _)
      | (with_reducible exact spec_l4Draw.mono _ _ _ _)
      | (with_reducible exact spec_l4DrawList.mono _ _ _ _)
      | (with_reducible exact LeO.refl _)
      | (with_reducible exact LeO.none _)
      | (with_reducible refine LeO.ite ?_ ?_)
      | (with_reducible refine LeO.bind ?_ (fun _ => ?_))
      | exact spec_l1New.mono _ _
      | exact spec_l4Draw.mono _ _ _ _
      | exact spec_l4DrawList.mono _ _ _ _
      | exact LeO.none _
      | refine LeO.ite ?_ ?_
      | refine LeO.bind ?_ (fun _ => ?_)
set_option maxHeartbeats 8000000 in
set_option maxRecDepth 100000 in
theorem spec_DrawMakerSet.calls (k : Nat) (A0 : Option Addr) (c0 : Nat) (l0 : List Int) (r1 : List (S_Maker)) (r2 : Int) (r3 : Int) (r4 : Int) (r5 : Int) (r6 : List (S_Mark)) (w : World) (hr0 : Kd.C (Kd.int .u8) w A0 l0.length l0) (hc0 : l0.length ≤ c0) (h : spec_DrawMakerSet.f k l0 = some (r1, r2, r3, r4, r5, r6)) :
    Calls Try.prog 36 #[.slice A0 l0.length c0] w fun e w' => ∃ v0_ v5_ : Value, e = .returned (.tuple #[v0_, .agg #[.int .i64 r2, .int .i64 r3, .int .i64 r4, .int .i64 r5, v5_]]) ∧ Kd.S k_Maker 38 w' w.heap.size (fun k_ => some k_ ≠ (v5_ : Value).ownBlock) v0_ r1 ∧ Kd.R k_Mark 110 w' w.heap.size (fun _ => True) v5_ r6 ∧ Below w.heap.size w w' := by
  have hu38 := Try.underlying38
  have HR0 := Aside0.mk hr0
  have HC0 := Aside0.mk hc0
  clear hr0 hc0
  have HB := Aside0.mk (Below.refl w.heap.size w)
  have H : ((spec_l1New.f k l0).bind fun bt935 => ((spec_l4DrawList.f k bt935.1 bt935.2.1 bt935.2.2).bind fun bt939 => ((spec_l4Draw.f k bt935.1 bt939.2.1 bt939.2.2).bind fun bt944 => (some (bt939.1, bt944.1, bt944.2.1, bt944.2.2.1, bt944.2.2.2.1, bt944.2.2.2.2.1))))) = some (r1, r2, r3, r4, r5, r6) := h
  clear h
  replace H := Option.bind_eq_some_iff.mp H
  obtain ⟨⟨t935, t936, t937⟩, A20, H⟩ := H
  replace H : ((spec_l4DrawList.f k t935 t936 t937).bind fun bt939 => ((spec_l4Draw.f k t935 bt939.2.1 bt939.2.2).bind fun bt944 => (some (bt939.1, bt944.1, bt944.2.1, bt944.2.2.1, bt944.2.2.2.1, bt944.2.2.2.2.1)))) = some (r1, r2, r3, r4, r5, r6) := H
  have A2 := Aside0.mk A20
  clear A20
  replace H := Option.bind_eq_some_iff.mp H
  obtain ⟨⟨t939, t942, t943⟩, A30, H⟩ := H
  replace H : ((spec_l4Draw.f k t935 t942 t943).bind fun bt944 => (some (t939, bt944.1, bt944.2.1, bt944.2.2.1, bt944.2.2.2.1, bt944.2.2.2.2.1))) = some (r1, r2, r3, r4, r5, r6) := H
  have A3 := Aside0.mk A30
  clear A30
  replace H := Option.bind_eq_some_iff.mp H
  obtain ⟨⟨t944, t945, t946, t947, t948, t951, t952⟩, A40, H⟩ := H
  replace H : (some (t939, t944, t945, t946, t947, t948)) = some (r1, r2, r3, r4, r5, r6) := H
  have A4 := Aside0.mk A40
  clear A40
  simp only [Option.some.injEq, Prod.mk.injEq] at H
  obtain ⟨rfl, rfl, rfl, rfl, rfl, rfl⟩ := H
  go_enter Try.func36, Try.ntmps36
  go_wp2_with (first | ((with_reducible refine gate_dst (N := 3) rfl ?_); refine box_event ?hg (N := 3) ?hd (cs := #[.int .i64 0, .int .i64 0, .int .i64 0, .int .i64 0, .slice none 0 0]) (t := 38) ?hr ?_; (case hd => rfl); (case hg => rfl); (case hr => first | (go_simp; done) | (go_simp; rfl)); intro gb934 hg w5 hbox hb; have BK934 := Aside0.mk (hbox); have GW934 := Aside0.mk ((by rw [hg]; exact (below_size (qd3_)) : w.heap.size ≤ gb934)); have GE934 := Aside0.mk ((by rw [hg]; exact (below_size (qd3_)) : w.heap.size ≤ gb934)); replace HB := Aside0.mk (below_step (qd3_) hb); clear hb hbox hg) | ((with_reducible refine gate_callee (f := 50) rfl ?_); refine goesL_ (some 7) rfl rfl Try.func50 (by kernel_rfl) rfl #[.slice A0 l0.length c0] rfl (qd0_) ?_; (with_reducible refine (spec_l1New.calls k _ _ l0 t935 t936 t937 w _ ?side1 ?side2 ?side3 A2.out).mono ?_); (case side1 => repeat (first | (with_reducible first | exact HB.out | apply below_alloc | apply pw_below_drewN | apply below_drew1 | refine below_set ?_ GE934.out) | exact HB.out)); (case side2 => exact HR0.out); (case side3 => exact HC0.out); rintro e w6 ⟨g938, rfl, hi, hb, hb2⟩; refine ⟨_, rfl, ?_⟩; have HI938 := Aside0.mk (hi); have NB938_934 := Aside0.mk (IsS_l1Cur.ne_blk hi (blk_below (g := gb934) (o := .cells #[.int .i64 0, .int .i64 0, .int .i64 0, .int .i64 0, .slice none 0 0] 38 (0, 0)) (bq_ BK934.out) hb2) (by decide)); have NB934_938 := Aside0.mk (Ne.symm (IsS_l1Cur.ne_blk hi (blk_below (g := gb934) (o := .cells #[.int .i64 0, .int .i64 0, .int .i64 0, .int .i64 0, .slice none 0 0] 38 (0, 0)) (bq_ BK934.out) hb2) (by decide))); replace BK934 := Aside0.mk (blk_below (g := gb934) (o := .cells #[.int .i64 0, .int .i64 0, .int .i64 0, .int .i64 0, .slice none 0 0] 38 (0, 0)) (bq_ BK934.out) hb2); replace HB := Aside0.mk (hb); (try clear hb); (try clear hb2); (try clear hk); (try clear hi)) | ((with_reducible refine gate_callee (f := 77) rfl ?_); refine goesL_ (some 9) rfl rfl Try.func77 (by kernel_rfl) rfl #[.pointer (some ⟨g938, 0, none⟩)] rfl (qd0_) ?_; (with_reducible refine (spec_l4DrawList.calls k g938 t935 t936 t937 t939 t942 t943 w _ ?side1 ?side2 A3.out).mono ?_); (case side1 => repeat (first | (with_reducible first | exact HI938.out | apply IsS_l1Cur.alloc | apply IsS_l1Cur.drewN | apply IsS_l1Cur.drew | apply IsS_l1Cur.set_1 | apply IsS_l1Cur.set_2 | refine IsS_l1Cur.far ?_ NB938_934.out _) | exact HI938.out)); (case side2 => repeat (first | (with_reducible first | exact HB.out | apply below_alloc | apply pw_below_drewN | apply below_drew1 | refine below_set ?_ (IsS_l1Cur.ge HI938.out) | refine below_set ?_ GE934.out) | exact HB.out)); rintro e w7 ⟨v940, rfl, ho0, hi, hb, hk⟩; refine ⟨_, rfl, ?_⟩; have HO941 := Aside0.mk (Kd.S_lower (Kd.S_newB ho0 (g := gb934) (o := .cells #[.int .i64 0, .int .i64 0, .int .i64 0, .int .i64 0, .slice none 0 0] 38 (0, 0)) (bq_ BK934.out)) (below_size (qd10_))); replace BK934 := Aside0.mk (KeepBut.blk hk (g' := gb934) (o := .cells #[.int .i64 0, .int .i64 0, .int .i64 0, .int .i64 0, .slice none 0 0] 38 (0, 0)) (bq_ BK934.out) NB934_938.out (by simp)); replace HB := Aside0.mk (hb); replace HI938 := Aside0.mk (hi); (try clear hb); (try clear hb2); (try clear hk); (try clear hi); (try clear ho0)) | ((with_reducible refine gate_callee (f := 73) rfl ?_); refine goesL_ (some 12) rfl rfl Try.func73 (by kernel_rfl) rfl #[.pointer (some ⟨g938, 0, none⟩)] rfl (qd0_) ?_; (with_reducible refine (spec_l4Draw.calls k g938 t935 t942 t943 t944 t945 t946 t947 t948 t951 t952 w _ ?side1 ?side2 A4.out).mono ?_); (case side1 => repeat (first | (with_reducible first | exact HI938.out | apply IsS_l1Cur.alloc | apply IsS_l1Cur.drewN | apply IsS_l1Cur.drew | apply IsS_l1Cur.set_1 | apply IsS_l1Cur.set_2 | refine IsS_l1Cur.far ?_ NB938_934.out _) | exact HI938.out)); (case side2 => repeat (first | (with_reducible first | exact HB.out | apply below_alloc | apply pw_below_drewN | apply below_drew1 | refine below_set ?_ (IsS_l1Cur.ge HI938.out) | refine below_set ?_ GE934.out) | exact HB.out)); rintro e w8 ⟨v949, rfl, ho0, hi, hb, hk⟩; refine ⟨_, rfl, ?_⟩; have HO950 := Aside0.mk (Kd.R_lower ho0 (below_size (qd10_))); replace BK934 := Aside0.mk (KeepBut.blk hk (g' := gb934) (o := .cells #[.int .i64 0, .int .i64 0, .int .i64 0, .int .i64 0, .slice none 0 0] 38 (0, 0)) (bq_ BK934.out) NB934_938.out (by simp)); replace HO941 := Aside0.mk (Kd.S_mono (Kd.S_told (Kd.S_oldK (IsS_l1Cur.apartS (show IsS_l1Cur w _ g938 t935 t942 t943 from by repeat (first | (with_reducible first | exact HI938.out | apply IsS_l1Cur.alloc | apply IsS_l1Cur.drewN | apply IsS_l1Cur.drew | apply IsS_l1Cur.set_1 | apply IsS_l1Cur.set_2 | refine IsS_l1Cur.far ?_ NB938_934.out _) | exact HI938.out)) (by (with_reducible repeat (first | apply Kd.S_alloc | apply Kd.S_drewN | apply Kd.S_drew)); exact HO941.out) (by decide)) hk) (Kd.R_base ho0)) (fun _ h_ => h_.1)); replace HB := Aside0.mk (hb); replace HI938 := Aside0.mk (hi); (try clear hb); (try clear hb2); (try clear hk); (try clear hi); (try clear ho0); have hnb9 := NB934_938.out; have hnc9 := NB938_934.out; have hcz10_0 : w8.cell? ⟨gb934, 0, none⟩ = some (.int .i64 0) := bc_ BK934 0; have hcz10_1 : w8.cell? ⟨gb934, 1, none⟩ = some (.int .i64 0) := bc_ BK934 1; have hcz10_2 : w8.cell? ⟨gb934, 2, none⟩ = some (.int .i64 0) := bc_ BK934 2; have hcz10_3 : w8.cell? ⟨gb934, 3, none⟩ = some (.int .i64 0) := bc_ BK934 3; have hcz10_4 : w8.cell? ⟨gb934, 4, none⟩ = some (.slice none 0 0) := bc_ BK934 4; have hfz10_0 := blk_frozen BK934.out 0; have hfz10_1 := blk_frozen BK934.out 1; have hfz10_2 := blk_frozen BK934.out 2; have hfz10_3 := blk_frozen BK934.out 3; have hfz10_4 := blk_frozen BK934.out 4; obtain ⟨Ao11, co11, eo11⟩ := Kd.R_slice HO950.out; subst eo11))
  refine bodyPost_ret (results_tc rfl _ _ gb934 38 #[.int .i64 t944, .int .i64 t945, .int .i64 t946, .int .i64 t947, .slice Ao11 t948.length co11] (0, 0) _ rfl (bp_ BK934.out) Try.underlying38 rfl (by kernel_rfl)) rfl ?_
  exact ⟨_, _, qd7_, by (with_reducible repeat (first | apply Kd.S_alloc | apply Kd.S_drewN | apply Kd.S_drew)); exact Kd.S_mono (Kd.S_far (p := ⟨gb934, 4, none⟩) (Kd.S_far (p := ⟨gb934, 3, none⟩) (Kd.S_far (p := ⟨gb934, 2, none⟩) (Kd.S_far (p := ⟨gb934, 1, none⟩) (Kd.S_far (p := ⟨gb934, 0, none⟩) (Kd.S_mono HO941.out (fun k_ hk => (⟨hk, hk.1.2⟩ : _ ∧ k_ ≠ gb934))) (fun _ hk => hk.2) (.int .i64 t944)) (fun _ hk => hk.2) (.int .i64 t945)) (fun _ hk => hk.2) (.int .i64 t946)) (fun _ hk => hk.2) (.int .i64 t947)) (fun _ hk => hk.2) (.slice Ao11 t948.length co11)) (fun _ hk => hk.1.2), by (with_reducible repeat (first | apply Kd.R_alloc | apply Kd.R_drewN | apply Kd.R_drew)); exact Kd.R_mono (Kd.R_far (p := ⟨gb934, 4, none⟩) (Kd.R_far (p := ⟨gb934, 3, none⟩) (Kd.R_far (p := ⟨gb934, 2, none⟩) (Kd.R_far (p := ⟨gb934, 1, none⟩) (Kd.R_far (p := ⟨gb934, 0, none⟩) (Kd.R_types HO950.out BK934.out (by decide)) (fun _ hk => hk.2) (.int .i64 t944)) (fun _ hk => hk.2) (.int .i64 t945)) (fun _ hk => hk.2) (.int .i64 t946)) (fun _ hk => hk.2) (.int .i64 t947)) (fun _ hk => hk.2) (.slice Ao11 t948.length co11)) (fun _ hk => trivial), qd10_⟩

/-! ### spec_DrawMakerOf: function 37 -/
def spec_DrawMakerOf.f (k : Nat) (l0 : List Int) : Option ((List (S_Maker)) × Int × Int) := (spec_l1New.f k l0).bind fun bt953 => ((spec_l4DrawList.f k bt953.1 bt953.2.1 bt953.2.2).bind fun bt957 => ((spec_l1Below.f bt953.1 bt957.2.1 bt957.2.2 3).bind fun bt962 => ((spec_l1Below.f bt953.1 bt962.2.1 bt962.2.2 4).bind fun bt965 => (some (bt957.1, bt962.1, bt965.1)))))
theorem spec_DrawMakerOf.mono : ∀ a0 k, LeO (spec_DrawMakerOf.f k a0) (spec_DrawMakerOf.f (k + 1) a0) := by
  intro a0 k
  unfold spec_DrawMakerOf.f
  repeat' first
      | (with_reducible exact spec_l1New.mono _ _)
      | (with_reducible exact spec_l4DrawList.mono _ _ _ _)
      | (with_reducible exact LeO.refl _)
      | (with_reducible exact LeO.none _)
      | (with_reducible refine LeO.ite ?_ ?_)
      | (with_reducible refine LeO.bind ?_ (fun _ => ?_))
      | exact spec_l1New.mono _ _
      | exact spec_l4DrawList.mono _ _ _ _
      | exact LeO.none _
      | refine LeO.ite ?_ ?_
      | refine LeO.bind ?_ (fun _ => ?_)
set_option maxHeartbeats 8000000 in
set_option maxRecDepth 100000 in
theorem spec_DrawMakerOf.calls (k : Nat) (A0 : Option Addr) (c0 : Nat) (l0 : List Int) (r1 : List (S_Maker)) (r2 : Int) (r3 : Int) (w : World) (hr0 : Kd.C (Kd.int .u8) w A0 l0.length l0) (hc0 : l0.length ≤ c0) (h : spec_DrawMakerOf.f k l0 = some (r1, r2, r3)) :
    Calls Try.prog 37 #[.slice A0 l0.length c0] w fun e w' => ∃ v0_ : Value, e = .returned (.tuple #[v0_, .int .i64 r2, .int .i64 r3]) ∧ Kd.S k_Maker 38 w' w.heap.size (fun _ => True) v0_ r1 ∧ Below w.heap.size w w' := by
  have HR0 := Aside0.mk hr0
  have HC0 := Aside0.mk hc0
  clear hr0 hc0
  have HB := Aside0.mk (Below.refl w.heap.size w)
  have H : ((spec_l1New.f k l0).bind fun bt953 => ((spec_l4DrawList.f k bt953.1 bt953.2.1 bt953.2.2).bind fun bt957 => ((spec_l1Below.f bt953.1 bt957.2.1 bt957.2.2 3).bind fun bt962 => ((spec_l1Below.f bt953.1 bt962.2.1 bt962.2.2 4).bind fun bt965 => (some (bt957.1, bt962.1, bt965.1)))))) = some (r1, r2, r3) := h
  clear h
  replace H := Option.bind_eq_some_iff.mp H
  obtain ⟨⟨t953, t954, t955⟩, A20, H⟩ := H
  replace H : ((spec_l4DrawList.f k t953 t954 t955).bind fun bt957 => ((spec_l1Below.f t953 bt957.2.1 bt957.2.2 3).bind fun bt962 => ((spec_l1Below.f t953 bt962.2.1 bt962.2.2 4).bind fun bt965 => (some (bt957.1, bt962.1, bt965.1))))) = some (r1, r2, r3) := H
  have A2 := Aside0.mk A20
  clear A20
  replace H := Option.bind_eq_some_iff.mp H
  obtain ⟨⟨t957, t960, t961⟩, A30, H⟩ := H
  replace H : ((spec_l1Below.f t953 t960 t961 3).bind fun bt962 => ((spec_l1Below.f t953 bt962.2.1 bt962.2.2 4).bind fun bt965 => (some (t957, bt962.1, bt965.1)))) = some (r1, r2, r3) := H
  have A3 := Aside0.mk A30
  clear A30
  replace H := Option.bind_eq_some_iff.mp H
  obtain ⟨⟨t962, t963, t964⟩, A40, H⟩ := H
  replace H : ((spec_l1Below.f t953 t963 t964 4).bind fun bt965 => (some (t957, t962, bt965.1))) = some (r1, r2, r3) := H
  have A4 := Aside0.mk A40
  clear A40
  replace H := Option.bind_eq_some_iff.mp H
  obtain ⟨⟨t965, t966, t967⟩, A50, H⟩ := H
  replace H : (some (t957, t962, t965)) = some (r1, r2, r3) := H
  have A5 := Aside0.mk A50
  clear A50
  simp only [Option.some.injEq, Prod.mk.injEq] at H
  obtain ⟨rfl, rfl, rfl⟩ := H
  go_enter Try.func37, Try.ntmps37
  go_wp2_with (first | ((with_reducible refine gate_callee (f := 50) rfl ?_); refine goesL_ (some 9) rfl rfl Try.func50 (by kernel_rfl) rfl #[.slice A0 l0.length c0] rfl (qd0_) ?_; (with_reducible refine (spec_l1New.calls k _ _ l0 t953 t954 t955 w _ ?side1 ?side2 ?side3 A2.out).mono ?_); (case side1 => repeat (first | (with_reducible first | exact HB.out | apply below_alloc | apply pw_below_drewN | apply below_drew1) | exact HB.out)); (case side2 => exact HR0.out); (case side3 => exact HC0.out); rintro e w6 ⟨g956, rfl, hi, hb, hb2⟩; refine ⟨_, rfl, ?_⟩; have HI956 := Aside0.mk (hi); replace HB := Aside0.mk (hb); (try clear hb); (try clear hb2); (try clear hk); (try clear hi)) | ((with_reducible refine gate_callee (f := 77) rfl ?_); refine goesL_ (some 11) rfl rfl Try.func77 (by kernel_rfl) rfl #[.pointer (some ⟨g956, 0, none⟩)] rfl (qd0_) ?_; (with_reducible refine (spec_l4DrawList.calls k g956 t953 t954 t955 t957 t960 t961 w _ ?side1 ?side2 A3.out).mono ?_); (case side1 => repeat (first | (with_reducible first | exact HI956.out | apply IsS_l1Cur.alloc | apply IsS_l1Cur.drewN | apply IsS_l1Cur.drew | apply IsS_l1Cur.set_1 | apply IsS_l1Cur.set_2) | exact HI956.out)); (case side2 => repeat (first | (with_reducible first | exact HB.out | apply below_alloc | apply pw_below_drewN | apply below_drew1 | refine below_set ?_ (IsS_l1Cur.ge HI956.out)) | exact HB.out)); rintro e w7 ⟨v958, rfl, ho0, hi, hb, hk⟩; refine ⟨_, rfl, ?_⟩; have HO959 := Aside0.mk (Kd.S_lower ho0 (below_size (qd15_))); replace HB := Aside0.mk (hb); replace HI956 := Aside0.mk (hi); (try clear hb); (try clear hb2); (try clear hk); (try clear hi); (try clear ho0)) | ((with_reducible refine gate_callee (f := 76) rfl ?_); refine goesL_ (some 13) rfl rfl Try.func76 (by kernel_rfl) rfl #[.pointer (some ⟨g956, 0, none⟩), .int .i64 3] rfl (qd0_) ?_; (with_reducible refine (spec_l1Below.calls g956 t953 t960 t961 3 t962 t963 t964 w _ ?side1 ?side2 A4.out).mono ?_); (case side1 => repeat (first | (with_reducible first | exact HI956.out | apply IsS_l1Cur.alloc | apply IsS_l1Cur.drewN | apply IsS_l1Cur.drew | apply IsS_l1Cur.set_1 | apply IsS_l1Cur.set_2) | exact HI956.out)); (case side2 => repeat (first | (with_reducible first | exact HB.out | apply below_alloc | apply pw_below_drewN | apply below_drew1 | refine below_set ?_ (IsS_l1Cur.ge HI956.out)) | exact HB.out)); rintro e w8 ⟨rfl, hi, hb, hk⟩; refine ⟨_, rfl, ?_⟩; replace HO959 := Aside0.mk (Kd.S_mono (Kd.S_keep (IsS_l1Cur.apartS (show IsS_l1Cur w _ g956 t953 t960 t961 from by repeat (first | (with_reducible first | exact HI956.out | apply IsS_l1Cur.alloc | apply IsS_l1Cur.drewN | apply IsS_l1Cur.drew | apply IsS_l1Cur.set_1 | apply IsS_l1Cur.set_2) | exact HI956.out)) (qd13_) (by decide)) hk (fun _ h => h.2)) (fun _ h => h.1)); replace HB := Aside0.mk (hb); replace HI956 := Aside0.mk (hi); (try clear hb); (try clear hb2); (try clear hk); (try clear hi)) | ((with_reducible refine gate_callee (f := 76) rfl ?_); refine goesL_ (some 17) rfl rfl Try.func76 (by kernel_rfl) rfl #[.pointer (some ⟨g956, 0, none⟩), .int .i64 4] rfl (qd0_) ?_; (with_reducible refine (spec_l1Below.calls g956 t953 t963 t964 4 t965 t966 t967 w _ ?side1 ?side2 A5.out).mono ?_); (case side1 => repeat (first | (with_reducible first | exact HI956.out | apply IsS_l1Cur.alloc | apply IsS_l1Cur.drewN | apply IsS_l1Cur.drew | apply IsS_l1Cur.set_1 | apply IsS_l1Cur.set_2) | exact HI956.out)); (case side2 => repeat (first | (with_reducible first | exact HB.out | apply below_alloc | apply pw_below_drewN | apply below_drew1 | refine below_set ?_ (IsS_l1Cur.ge HI956.out)) | exact HB.out)); rintro e w9 ⟨rfl, hi, hb, hk⟩; refine ⟨_, rfl, ?_⟩; replace HO959 := Aside0.mk (Kd.S_mono (Kd.S_keep (IsS_l1Cur.apartS (show IsS_l1Cur w _ g956 t953 t963 t964 from by repeat (first | (with_reducible first | exact HI956.out | apply IsS_l1Cur.alloc | apply IsS_l1Cur.drewN | apply IsS_l1Cur.drew | apply IsS_l1Cur.set_1 | apply IsS_l1Cur.set_2) | exact HI956.out)) (qd13_) (by decide)) hk (fun _ h => h.2)) (fun _ h => h.1)); replace HB := Aside0.mk (hb); replace HI956 := Aside0.mk (hi); (try clear hb); (try clear hb2); (try clear hk); (try clear hi)))
  go_ret3
  exact ⟨_, qd7_, qd13_, qd15_⟩
/-! ### spec_DrawMakerOk: function 38 -/
def spec_DrawMakerOk.f (k : Nat) (l0 : List Int) : Option (Int × Int × Int × Int × (List (S_Mark)) × Int) := (spec_l1New.f k l0).bind fun bt969 => ((spec_l4Draw.f k bt969.1 bt969.2.1 bt969.2.2).bind fun bt973 => ((spec_l1PickInt.f bt969.1 bt973.2.2.2.2.2.1 bt973.2.2.2.2.2.2 (([3, 3, 1, 0, (-1)] : List Int))).bind fun bt986 => (some (bt973.1, bt973.2.1, bt973.2.2.1, bt973.2.2.2.1, bt973.2.2.2.2.1, bt986.1))))
theorem spec_DrawMakerOk.mono : ∀ a0 k, LeO (spec_DrawMakerOk.f k a0) (spec_DrawMakerOk.f (k + 1) a0) := by
  intro a0 k
  unfold spec_DrawMakerOk.f
  repeat' first
      | (with_reducible exact spec_l1New.mono _ _)
      | (with_reducible exact spec_l4Draw.mono _ _ _ _)
      | (with_reducible exact LeO.refl _)
      | (with_reducible exact LeO.none _)
      | (with_reducible refine LeO.ite ?_ ?_)
      | (with_reducible refine LeO.bind ?_ (fun _ => ?_))
      | exact spec_l1New.mono _ _
      | exact spec_l4Draw.mono _ _ _ _
      | exact LeO.none _
      | refine LeO.ite ?_ ?_
      | refine LeO.bind ?_ (fun _ => ?_)
set_option maxHeartbeats 8000000 in
set_option maxRecDepth 100000 in
theorem spec_DrawMakerOk.calls (k : Nat) (A0 : Option Addr) (c0 : Nat) (l0 : List Int) (r1 : Int) (r2 : Int) (r3 : Int) (r4 : Int) (r5 : List (S_Mark)) (r6 : Int) (w : World) (hr0 : Kd.C (Kd.int .u8) w A0 l0.length l0) (hc0 : l0.length ≤ c0) (h : spec_DrawMakerOk.f k l0 = some (r1, r2, r3, r4, r5, r6)) :
    Calls Try.prog 38 #[.slice A0 l0.length c0] w fun e w' => ∃ v4_ : Value, e = .returned (.tuple #[.agg #[.int .i64 r1, .int .i64 r2, .int .i64 r3, .int .i64 r4, v4_], .int .i64 r6]) ∧ Kd.R k_Mark 110 w' w.heap.size (fun _ => True) v4_ r5 ∧ Below w.heap.size w w' := by
  have hu38 := Try.underlying38
  have HR0 := Aside0.mk hr0
  have HC0 := Aside0.mk hc0
  clear hr0 hc0
  have HB := Aside0.mk (Below.refl w.heap.size w)
  have H : ((spec_l1New.f k l0).bind fun bt969 => ((spec_l4Draw.f k bt969.1 bt969.2.1 bt969.2.2).bind fun bt973 => ((spec_l1PickInt.f bt969.1 bt973.2.2.2.2.2.1 bt973.2.2.2.2.2.2 (([3, 3, 1, 0, (-1)] : List Int))).bind fun bt986 => (some (bt973.1, bt973.2.1, bt973.2.2.1, bt973.2.2.2.1, bt973.2.2.2.2.1, bt986.1))))) = some (r1, r2, r3, r4, r5, r6) := h
  clear h
  replace H := Option.bind_eq_some_iff.mp H
  obtain ⟨⟨t969, t970, t971⟩, A20, H⟩ := H
  replace H : ((spec_l4Draw.f k t969 t970 t971).bind fun bt973 => ((spec_l1PickInt.f t969 bt973.2.2.2.2.2.1 bt973.2.2.2.2.2.2 (([3, 3, 1, 0, (-1)] : List Int))).bind fun bt986 => (some (bt973.1, bt973.2.1, bt973.2.2.1, bt973.2.2.2.1, bt973.2.2.2.2.1, bt986.1)))) = some (r1, r2, r3, r4, r5, r6) := H
  have A2 := Aside0.mk A20
  clear A20
  replace H := Option.bind_eq_some_iff.mp H
  obtain ⟨⟨t973, t974, t975, t976, t977, t980, t981⟩, A30, H⟩ := H
  replace H : ((spec_l1PickInt.f t969 t980 t981 (([3, 3, 1, 0, (-1)] : List Int))).bind fun bt986 => (some (t973, t974, t975, t976, t977, bt986.1))) = some (r1, r2, r3, r4, r5, r6) := H
  have A3 := Aside0.mk A30
  clear A30
  obtain ⟨y983, hy983⟩ : ∃ y_ : List Int, y_ = (([3, 3, 1, 0, (-1)] : List Int)) := ⟨_, rfl⟩
  replace H : ((spec_l1PickInt.f t969 t980 t981 y983).bind fun bt986 => (some (t973, t974, t975, t976, t977, bt986.1))) = some (r1, r2, r3, r4, r5, r6) := by first | (rw [hy983]; with_reducible exact H) | (have H2_ := (Option.bind_some _ _).symm.trans H; rw [hy983]; with_reducible exact H2_) | (have H2_ := (Option.bind_some _ _).symm.trans H; with_reducible exact H2_) | with_reducible exact H | (rw [hy983]; exact H) | exact H
  have Ny983 := Aside0.mk hy983
  clear hy983
  replace H := Option.bind_eq_some_iff.mp H
  obtain ⟨⟨t986, t987, t988⟩, A40, H⟩ := H
  replace H : (some (t973, t974, t975, t976, t977, t986)) = some (r1, r2, r3, r4, r5, r6) := H
  have A4 := Aside0.mk A40
  clear A40
  simp only [Option.some.injEq, Prod.mk.injEq] at H
  obtain ⟨rfl, rfl, rfl, rfl, rfl, rfl⟩ := H
  go_enter Try.func38, Try.ntmps38
  try go_wp2_with (first | ((with_reducible refine gate_dst (N := 2) rfl ?_); refine box_event ?hg (N := 2) ?hd (cs := #[.int .i64 0, .int .i64 0, .int .i64 0, .int .i64 0, .slice none 0 0]) (t := 38) ?hr ?_; (case hd => rfl); (case hg => rfl); (case hr => first | (go_simp; done) | (go_simp; rfl)); intro gb968 hg w5 hbox hb; have BK968 := Aside0.mk (hbox); have GW968 := Aside0.mk ((by rw [hg]; exact (below_size (qd3_)) : w.heap.size ≤ gb968)); have GE968 := Aside0.mk ((by rw [hg]; exact (below_size (qd3_)) : w.heap.size ≤ gb968)); replace HB := Aside0.mk (below_step (qd3_) hb); clear hb hbox hg) | ((with_reducible refine gate_callee (f := 50) rfl ?_); refine goesL_ (some 7) rfl rfl Try.func50 (by kernel_rfl) rfl #[.slice A0 l0.length c0] rfl (qd0_) ?_; (with_reducible refine (spec_l1New.calls k _ _ l0 t969 t970 t971 w _ ?side1 ?side2 ?side3 A2.out).mono ?_); (case side1 => repeat (first | (with_reducible first | exact HB.out | apply below_alloc | apply pw_below_drewN | apply below_drew1 | refine below_set ?_ GE968.out) | exact HB.out)); (case side2 => exact HR0.out); (case side3 => exact HC0.out); rintro e w6 ⟨g972, rfl, hi, hb, hb2⟩; refine ⟨_, rfl, ?_⟩; have HI972 := Aside0.mk (hi); have NB972_968 := Aside0.mk (IsS_l1Cur.ne_blk hi (blk_below (g := gb968) (o := .cells #[.int .i64 0, .int .i64 0, .int .i64 0, .int .i64 0, .slice none 0 0] 38 (0, 0)) (bq_ BK968.out) hb2) (by decide)); have NB968_972 := Aside0.mk (Ne.symm (IsS_l1Cur.ne_blk hi (blk_below (g := gb968) (o := .cells #[.int .i64 0, .int .i64 0, .int .i64 0, .int .i64 0, .slice none 0 0] 38 (0, 0)) (bq_ BK968.out) hb2) (by decide))); replace BK968 := Aside0.mk (blk_below (g := gb968) (o := .cells #[.int .i64 0, .int .i64 0, .int .i64 0, .int .i64 0, .slice none 0 0] 38 (0, 0)) (bq_ BK968.out) hb2); replace HB := Aside0.mk (hb); (try clear hb); (try clear hb2); (try clear hk); (try clear hi)) | ((with_reducible refine gate_callee (f := 73) rfl ?_); refine goesL_ (some 9) rfl rfl Try.func73 (by kernel_rfl) rfl #[.pointer (some ⟨g972, 0, none⟩)] rfl (qd0_) ?_; (with_reducible refine (spec_l4Draw.calls k g972 t969 t970 t971 t973 t974 t975 t976 t977 t980 t981 w _ ?side1 ?side2 A3.out).mono ?_); (case side1 => repeat (first | (with_reducible first | exact HI972.out | apply IsS_l1Cur.alloc | apply IsS_l1Cur.drewN | apply IsS_l1Cur.drew | apply IsS_l1Cur.set_1 | apply IsS_l1Cur.set_2 | refine IsS_l1Cur.far ?_ NB972_968.out _) | exact HI972.out)); (case side2 => repeat (first | (with_reducible first | exact HB.out | apply below_alloc | apply pw_below_drewN | apply below_drew1 | refine below_set ?_ (IsS_l1Cur.ge HI972.out) | refine below_set ?_ GE968.out) | exact HB.out)); rintro e w7 ⟨v978, rfl, ho0, hi, hb, hk⟩; refine ⟨_, rfl, ?_⟩; have HO979 := Aside0.mk (Kd.R_lower ho0 (below_size (qd6_))); replace BK968 := Aside0.mk (KeepBut.blk hk (g' := gb968) (o := .cells #[.int .i64 0, .int .i64 0, .int .i64 0, .int .i64 0, .slice none 0 0] 38 (0, 0)) (bq_ BK968.out) NB968_972.out (by simp)); replace HB := Aside0.mk (hb); replace HI972 := Aside0.mk (hi); (try clear hb); (try clear hb2); (try clear hk); (try clear hi); (try clear ho0)) | ((with_reducible refine gate_dst (N := 5) rfl ?_); refine box_event ?hg (N := 5) ?hd (cs := #[.int .i64 0, .int .i64 0, .int .i64 0, .int .i64 0, .slice none 0 0]) (t := 38) ?hr ?_; (case hd => rfl); (case hg => rfl); (case hr => first | (go_simp; done) | (go_simp; rfl)); intro gb982 hg w8 hbox hb; have BK982 := Aside0.mk (hbox); have GW982 := Aside0.mk ((by rw [hg]; exact (below_size (qd6_)) : w.heap.size ≤ gb982)); have GE982 := Aside0.mk ((by rw [hg]; exact (below_size (qd6_)) : w.heap.size ≤ gb982)); have NB968_982 := Aside0.mk ((by rw [hg]; exact Nat.ne_of_lt (blk_lt (g := gb968) (o := .cells #[.int .i64 0, .int .i64 0, .int .i64 0, .int .i64 0, .slice none 0 0] 38 (0, 0)) (bq_ BK968.out)) : gb968 ≠ gb982)); have NB982_968 := Aside0.mk ((by rw [hg]; exact Nat.ne_of_gt (blk_lt (g := gb968) (o := .cells #[.int .i64 0, .int .i64 0, .int .i64 0, .int .i64 0, .slice none 0 0] 38 (0, 0)) (bq_ BK968.out)) : gb982 ≠ gb968)); have NB972_982 := Aside0.mk ((by rw [hg]; exact Nat.ne_of_lt (IsS_l1Cur.lt (show IsS_l1Cur w _ g972 t969 t980 t981 from by repeat (first | (with_reducible first | exact HI972.out | apply IsS_l1Cur.alloc | apply IsS_l1Cur.drewN | apply IsS_l1Cur.drew | apply IsS_l1Cur.set_1 | apply IsS_l1Cur.set_2 | refine IsS_l1Cur.far ?_ NB972_968.out _) | exact HI972.out))) : g972 ≠ gb982)); have NB982_972 := Aside0.mk ((by rw [hg]; exact Nat.ne_of_gt (IsS_l1Cur.lt (show IsS_l1Cur w _ g972 t969 t980 t981 from by repeat (first | (with_reducible first | exact HI972.out | apply IsS_l1Cur.alloc | apply IsS_l1Cur.drewN | apply IsS_l1Cur.drew | apply IsS_l1Cur.set_1 | apply IsS_l1Cur.set_2 | refine IsS_l1Cur.far ?_ NB972_968.out _) | exact HI972.out))) : gb982 ≠ g972)); replace HO979 := Aside0.mk (Kd.R_below (qd14_) hb); replace BK968 := Aside0.mk (blk_below (g := gb968) (o := .cells #[.int .i64 0, .int .i64 0, .int .i64 0, .int .i64 0, .slice none 0 0] 38 (0, 0)) (bq_ BK968.out) hb); replace HB := Aside0.mk (below_step (qd6_) hb); replace HI972 := Aside0.mk (IsS_l1Cur.below (by repeat (first | (with_reducible first | exact HI972.out | apply IsS_l1Cur.alloc | apply IsS_l1Cur.drewN | apply IsS_l1Cur.drew | apply IsS_l1Cur.set_1 | apply IsS_l1Cur.set_2 | refine IsS_l1Cur.far ?_ NB972_968.out _) | exact HI972.out)) hb); clear hb hbox hg; have hnb9 := NB982_968.out; have hnc9 := NB968_982.out; have hnb10 := NB982_972.out; have hnc10 := NB972_982.out; have hcz11_0 : w8.cell? ⟨gb982, 0, none⟩ = some (.int .i64 0) := bc_ BK982 0; have hcz11_1 : w8.cell? ⟨gb982, 1, none⟩ = some (.int .i64 0) := bc_ BK982 1; have hcz11_2 : w8.cell? ⟨gb982, 2, none⟩ = some (.int .i64 0) := bc_ BK982 2; have hcz11_3 : w8.cell? ⟨gb982, 3, none⟩ = some (.int .i64 0) := bc_ BK982 3; have hcz11_4 : w8.cell? ⟨gb982, 4, none⟩ = some (.slice none 0 0) := bc_ BK982 4; have hfz11_0 := blk_frozen BK982.out 0; have hfz11_1 := blk_frozen BK982.out 1; have hfz11_2 := blk_frozen BK982.out 2; have hfz11_3 := blk_frozen BK982.out 3; have hfz11_4 := blk_frozen BK982.out 4; obtain ⟨Ao12, co12, eo12⟩ := Kd.R_slice HO979.out; subst eo12))
  obtain ⟨w13, qe_⟩ : ∃ x_, x_ = (((((w8.setCell ⟨gb982, 0, none⟩ (.int .i64 t973)).setCell ⟨gb982, 1, none⟩ (.int .i64 t974)).setCell ⟨gb982, 2, none⟩ (.int .i64 t975)).setCell ⟨gb982, 3, none⟩ (.int .i64 t976)).setCell ⟨gb982, 4, none⟩ (.slice Ao12 t977.length co12)) := ⟨_, rfl⟩
  rw [← qe_]
  replace HO979 : Aside0 (Kd.R k_Mark 110 w13 w.heap.size (fun _ => True) (.slice Ao12 t977.length co12) t977) := ⟨by rw [qe_]; exact by (with_reducible repeat (first | apply Kd.R_alloc | apply Kd.R_drewN | apply Kd.R_drew)); exact Kd.R_mono (Kd.R_far (p := ⟨gb982, 4, none⟩) (Kd.R_far (p := ⟨gb982, 3, none⟩) (Kd.R_far (p := ⟨gb982, 2, none⟩) (Kd.R_far (p := ⟨gb982, 1, none⟩) (Kd.R_far (p := ⟨gb982, 0, none⟩) (Kd.R_types HO979.out BK982.out (by decide)) (fun _ hk => hk.2) (.int .i64 t973)) (fun _ hk => hk.2) (.int .i64 t974)) (fun _ hk => hk.2) (.int .i64 t975)) (fun _ hk => hk.2) (.int .i64 t976)) (fun _ hk => hk.2) (.slice Ao12 t977.length co12)) (fun _ hk => trivial)⟩
  replace BK968 := fl_ qe_ BK968
  replace BK982 : Aside0 (w13.heap[gb982]? = some (.cells #[.int .i64 t973, .int .i64 t974, .int .i64 t975, .int .i64 t976, .slice Ao12 t977.length co12] 38 (0, 0))) := ⟨by rw [qe_]; exact bp_ BK982.out⟩
  replace HB : Aside0 (Below w.heap.size w w13) := ⟨by rw [qe_]; exact by repeat (first | (with_reducible first | exact HB.out | apply below_alloc | apply pw_below_drewN | apply below_drew1 | refine below_set ?_ (IsS_l1Cur.ge HI972.out) | refine below_set ?_ GE968.out | refine below_set ?_ GE982.out) | exact HB.out)⟩
  replace HI972 : Aside0 (IsS_l1Cur w w13 g972 t969 t980 t981) := ⟨by rw [qe_]; exact by repeat (first | (with_reducible first | exact HI972.out | apply IsS_l1Cur.alloc | apply IsS_l1Cur.drewN | apply IsS_l1Cur.drew | apply IsS_l1Cur.set_1 | apply IsS_l1Cur.set_2 | refine IsS_l1Cur.far ?_ NB972_968.out _ | refine IsS_l1Cur.far ?_ NB972_982.out _) | exact HI972.out)⟩
  clear qe_
  replace HO979 := Aside0.mk (Kd.R_drew HO979.out)
  replace BK968 := Aside0.mk (blk_drew BK968.out)
  replace BK982 := Aside0.mk (blk_drew BK982.out)
  replace HI972 := Aside0.mk (IsS_l1Cur.drew HI972.out)
  replace HB := Aside0.mk (below_drew1 HB.out)
  refine start_ (n := 6) (S := fun w' => w'.cell? ⟨gb982, 0, none⟩ = some (.int .i64 t973) ∧ w'.cell? ⟨gb982, 1, none⟩ = some (.int .i64 t974) ∧ w'.cell? ⟨gb982, 2, none⟩ = some (.int .i64 t975) ∧ w'.cell? ⟨gb982, 3, none⟩ = some (.int .i64 t976) ∧ w'.cell? ⟨gb982, 4, none⟩ = some (.slice Ao12 t977.length co12)) (ds := []) #[false, false, false, false, false, false] (by kernel_rfl) rfl rfl ⟨bc_ BK982 0, bc_ BK982 1, bc_ BK982 2, bc_ BK982 3, bc_ BK982 4⟩ (fun hHeld => ?_)
  generalize w13.drew = w14 at HO979 BK968 BK982 HI972 HB hHeld ⊢
  refine pure_ (i := 1) (N := some 11) (v := ?_) (a' := ?_) #[false, true, false, false, false, false] rfl rfl (by kernel_rfl) (fun _ _ _ h => h) (Or.inl ⟨by rfl, ?_⟩) ?_ ?_
  rotate_left
  · intro w'
    go_simp
    with_reducible rfl
  rotate_left
  · simp only [Act.put, List.setIfInBounds_toArray, List.set_cons_zero, List.set_cons_succ, i64_w, i32_w]
    rfl
  refine take_ (i := 0) (N := some 10) (v := ?_) (a' := ?_) #[true, true, false, false, false, false] rfl rfl (by kernel_rfl) (fun _ _ _ h => h) (Or.inl ⟨by rfl, ?_⟩) hHeld ?_ ?_
  rotate_left
  · rintro w' ⟨s0, s1, s2, s3, s4⟩
    go_simp
    with_reducible rfl
  rotate_left
  · simp only [Act.put, List.setIfInBounds_toArray, List.set_cons_zero, List.set_cons_succ, i64_w, i32_w]
    rfl
  refine one_ (i := 2) (N := some 12) #[true, true, true, false, false, false] rfl rfl (by kernel_rfl) (by decide) (fun K hK => ?_)
  refine Kd.R_lit_step (Kd.int .i64) _ 3 ?hg (N := 12) ?hd (xs := ([3, 3, 1, 0, (-1)] : List Int)) (inner := [.int .i64 3, .int .i64 3, .int .i64 1, .int .i64 0, .int .i64 (-1)]) (ok := fun _ => True) (okp := fun _ => True) ?hr ?hp (fun _ hk => hk) trivial (Below.refl _ _) (Nat.le_refl _) (by simp) ?_; (case hd => rfl); (case hg => rfl); (case hr => first | (go_simp; done) | (go_simp; rfl)); (case hp => exact (Reps.one (show Kd.M (Kd.int .i64) _ _ _ 3 [.int .i64 3] from rfl) (Reps.one (show Kd.M (Kd.int .i64) _ _ _ 3 [.int .i64 3] from rfl) (Reps.one (show Kd.M (Kd.int .i64) _ _ _ 1 [.int .i64 1] from rfl) (Reps.one (show Kd.M (Kd.int .i64) _ _ _ 0 [.int .i64 0] from rfl) (Reps.one (show Kd.M (Kd.int .i64) _ _ _ (-1) [.int .i64 (-1)] from rfl) (Reps.none _ _)))))))
  intro v984 w15 ho16 hb hg_ hnew_
  clear hg_ hnew_
  (first | rw [← Ny983.out] at ho16 | (simp only [Int.reduceToNat] at ho16; rw [← Ny983.out] at ho16))
  have HO985 := Aside0.mk (Kd.R_lower ho16 (below_size (qd9_)))
  replace HO979 := Aside0.mk (Kd.R_below (qd14_) hb)
  replace BK968 := Aside0.mk (blk_below (g := gb968) (o := .cells #[.int .i64 0, .int .i64 0, .int .i64 0, .int .i64 0, .slice none 0 0] 38 (0, 0)) (bq_ BK968.out) hb)
  replace BK982 := Aside0.mk (blk_below (g := gb982) (o := .cells #[.int .i64 t973, .int .i64 t974, .int .i64 t975, .int .i64 t976, .slice Ao12 t977.length co12] 38 (0, 0)) (bq_ BK982.out) hb)
  replace HB := Aside0.mk (below_step (qd9_) hb)
  replace HI972 := Aside0.mk (IsS_l1Cur.below (by repeat (first | (with_reducible first | exact HI972.out | apply IsS_l1Cur.alloc | apply IsS_l1Cur.drewN | apply IsS_l1Cur.drew | apply IsS_l1Cur.set_1 | apply IsS_l1Cur.set_2 | refine IsS_l1Cur.far ?_ NB972_968.out _ | refine IsS_l1Cur.far ?_ NB972_982.out _) | exact HI972.out)) hb)
  clear hb ho16
  obtain ⟨Ao17, co17, eo17⟩ := Kd.R_slice HO985.out
  (first | subst eo17 | (injection eo17 with f1_ f2_ f3_; have f4_ := f1_.symm; have f5_ := f3_.symm; clear f1_ f2_ f3_; subst f4_; subst f5_))
  refine hK.out _ _ ⟨bc_ BK982 0, bc_ BK982 1, bc_ BK982 2, bc_ BK982 3, bc_ BK982 4⟩ (fun hHeld => ?_)
  clear hK K
  refine norm_ (a' := ?_) ?_ ?_
  rotate_left
  · show Act.put _ (some 12) _ = _
    simp only [Act.put, List.setIfInBounds_toArray, List.set_cons_zero, List.set_cons_succ, i64_w, i32_w]
    rfl
  refine one_ (i := 3) (N := some 13) #[true, true, true, true, false, false] rfl rfl (by kernel_rfl) (by decide) (fun K hK => ?_)
  refine goes_ Try.func52 (by kernel_rfl) rfl #[.pointer (some ⟨g972, 0, none⟩), .slice Ao17 y983.length co17] (by rfl) rfl rfl (qd0_) ?_
  with_reducible refine (spec_l1PickInt.calls g972 t969 t980 t981 _ _ y983 t986 t987 t988 w _ ?side1 ?side2 ?side3 ?side4 ?side5 A4.out).mono ?_
  (case side1 => repeat (first | (with_reducible first | exact HI972.out | apply IsS_l1Cur.alloc | apply IsS_l1Cur.drewN | apply IsS_l1Cur.drew | apply IsS_l1Cur.set_1 | apply IsS_l1Cur.set_2 | refine IsS_l1Cur.far ?_ NB972_968.out _ | refine IsS_l1Cur.far ?_ NB972_982.out _) | exact HI972.out))
  (case side2 => repeat (first | (with_reducible first | exact HB.out | apply below_alloc | apply pw_below_drewN | apply below_drew1 | refine below_set ?_ (IsS_l1Cur.ge HI972.out) | refine below_set ?_ GE968.out | refine below_set ?_ GE982.out) | exact HB.out))
  (case side3 => repeat (first | exact (Kd.R_reads' HO985.out).2.2 | (with_reducible refine Kd.C_alloc ?_ _) | (with_reducible refine Kd.C_drewN ?_ _) | (with_reducible refine Kd.C_drew ?_)))
  (case side4 => exact (Kd.R_reads' HO985.out).2.1)
  (case side5 => exact far_slice (IsS_l1Cur.own_ne HI972.out HO985.out (by decide)))
  rintro e w18 ⟨rfl, hi, hb, hk⟩
  refine ⟨_, rfl, ?_⟩
  replace BK968 := Aside0.mk (KeepBut.blk hk (g' := gb968) (o := .cells #[.int .i64 0, .int .i64 0, .int .i64 0, .int .i64 0, .slice none 0 0] 38 (0, 0)) (bq_ BK968.out) NB968_972.out (by simp))
  replace HO979 := Aside0.mk (Kd.R_mono (Kd.R_keep (IsS_l1Cur.apart (show IsS_l1Cur w _ g972 t969 t980 t981 from by repeat (first | (with_reducible first | exact HI972.out | apply IsS_l1Cur.alloc | apply IsS_l1Cur.drewN | apply IsS_l1Cur.drew | apply IsS_l1Cur.set_1 | apply IsS_l1Cur.set_2 | refine IsS_l1Cur.far ?_ NB972_968.out _ | refine IsS_l1Cur.far ?_ NB972_982.out _) | exact HI972.out)) (qd14_) (by decide)) hk (fun _ h => h.2)) (fun _ h => h.1))
  replace BK982 := Aside0.mk (KeepBut.blk hk (g' := gb982) (o := .cells #[.int .i64 t973, .int .i64 t974, .int .i64 t975, .int .i64 t976, .slice Ao12 t977.length co12] 38 (0, 0)) (bq_ BK982.out) NB982_972.out (by simp))
  replace HO985 := Aside0.mk (Kd.R_mono (Kd.R_keep (IsS_l1Cur.apart (show IsS_l1Cur w _ g972 t969 t980 t981 from by repeat (first | (with_reducible first | exact HI972.out | apply IsS_l1Cur.alloc | apply IsS_l1Cur.drewN | apply IsS_l1Cur.drew | apply IsS_l1Cur.set_1 | apply IsS_l1Cur.set_2 | refine IsS_l1Cur.far ?_ NB972_968.out _ | refine IsS_l1Cur.far ?_ NB972_982.out _) | exact HI972.out)) (by (with_reducible repeat (first | apply Kd.R_alloc | apply Kd.R_drewN | apply Kd.R_drew)); exact HO985.out) (by decide)) hk (fun _ h => h.2)) (fun _ h => h.1))
  replace HB := Aside0.mk (hb)
  replace HI972 := Aside0.mk (hi)
  (try clear hb); (try clear hb2); (try clear hk); (try clear hi)
  refine hK.out _ _ ⟨bc_ BK982 0, bc_ BK982 1, bc_ BK982 2, bc_ BK982 3, bc_ BK982 4⟩ (fun hHeld => ?_)
  clear hK K
  refine norm_ (a' := ?_) ?_ ?_
  rotate_left
  · show Act.put _ (some 13) _ = _
    simp only [Act.put, List.setIfInBounds_toArray, List.set_cons_zero, List.set_cons_succ, i64_w, i32_w]
    rfl
  refine one_ (i := 4) (N := none) #[true, true, true, true, true, false] rfl rfl (by kernel_rfl) (by decide) (fun K hK => ?_)
  have hs19 : w18.cell? ⟨gb968, 0, none⟩ = some (.int .i64 0) := bc_ BK968 0
  have hfs19 := blk_frozen BK968.out 0
  have hns19_1 := NB982_968.out
  have hms19_1 := NB968_982.out
  have hs20 : w18.cell? ⟨gb968, 1, none⟩ = some (.int .i64 0) := bc_ BK968 1
  have hfs20 := blk_frozen BK968.out 1
  have hns20_1 := NB982_968.out
  have hms20_1 := NB968_982.out
  have hs21 : w18.cell? ⟨gb968, 2, none⟩ = some (.int .i64 0) := bc_ BK968 2
  have hfs21 := blk_frozen BK968.out 2
  have hns21_1 := NB982_968.out
  have hms21_1 := NB968_982.out
  have hs22 : w18.cell? ⟨gb968, 3, none⟩ = some (.int .i64 0) := bc_ BK968 3
  have hfs22 := blk_frozen BK968.out 3
  have hns22_1 := NB982_968.out
  have hms22_1 := NB968_982.out
  have hs23 : w18.cell? ⟨gb968, 4, none⟩ = some (.slice none 0 0) := bc_ BK968 4
  have hfs23 := blk_frozen BK968.out 4
  have hns23_1 := NB982_968.out
  have hms23_1 := NB968_982.out
  refine skip_ (w1 := ?_) (by rfl) rfl ?_ ?_
  rotate_left
  · go_simp
    rfl
  refine hK.out _ _ ⟨(cfs_ NB982_968.out (hHeld.1)), (cfs_ NB982_968.out (hHeld.2.1)), (cfs_ NB982_968.out (hHeld.2.2.1)), (cfs_ NB982_968.out (hHeld.2.2.2.1)), (cfs_ NB982_968.out (hHeld.2.2.2.2))⟩ (fun hHeld => ?_)
  clear hK K
  refine pure_ (i := 5) (N := some 3) (v := ?_) (a' := ?_) #[true, true, true, true, true, true] rfl rfl (by kernel_rfl) (fun _ _ _ h => h) (Or.inl ⟨by rfl, ?_⟩) ?_ ?_
  rotate_left
  · intro w'
    go_simp
    with_reducible rfl
  rotate_left
  · simp only [Act.put, List.setIfInBounds_toArray, List.set_cons_zero, List.set_cons_succ, i64_w, i32_w]
    rfl
  refine done_ (by kernel_rfl) ?_
  try go_wp2
  refine bodyPost_ret (results_ct rfl _ _ gb968 38 #[.int .i64 t973, .int .i64 t974, .int .i64 t975, .int .i64 t976, .slice Ao12 t977.length co12] (0, 0) _ rfl (bp_ BK968.out) Try.underlying38 rfl (by kernel_rfl)) rfl ?_
  exact ⟨_, qd7_, by (with_reducible repeat (first | apply Kd.R_alloc | apply Kd.R_drewN | apply Kd.R_drew)); exact Kd.R_mono (Kd.R_far (p := ⟨gb968, 4, none⟩) (Kd.R_far (p := ⟨gb968, 3, none⟩) (Kd.R_far (p := ⟨gb968, 2, none⟩) (Kd.R_far (p := ⟨gb968, 1, none⟩) (Kd.R_far (p := ⟨gb968, 0, none⟩) (Kd.R_types HO979.out BK968.out (by decide)) (fun _ hk => hk.2) (.int .i64 t973)) (fun _ hk => hk.2) (.int .i64 t974)) (fun _ hk => hk.2) (.int .i64 t975)) (fun _ hk => hk.2) (.int .i64 t976)) (fun _ hk => hk.2) (.slice Ao12 t977.length co12)) (fun _ hk => trivial), qd9_⟩
section
attribute [local go_sem high] eqA_Mark
/-! ### laws_sameMaker: function 39 -/
mutual
def laws_sameMaker.j0 : Nat → Bool → Int → Int → Int → Int → List (S_Mark) → Int → Int → Int → Int → List (S_Mark) → Option (Bool)
  | 0, _, _, _, _, _, _, _, _, _, _, _ => none
  | k + 1, x40, x990000, x990001, x990002, x990003, x990004, x991000, x991001, x991002, x991003, x991004 => if x40 = true then (some false) else (laws_sameMaker.l0 k 0 x990000 x990001 x990002 x990003 x990004 x991000 x991001 x991002 x991003 x991004)
def laws_sameMaker.l0 : Nat → Int → Int → Int → Int → Int → List (S_Mark) → Int → Int → Int → Int → List (S_Mark) → Option (Bool)
  | 0, _, _, _, _, _, _, _, _, _, _, _ => none
  | k + 1, x5, x990000, x990001, x990002, x990003, x990004, x991000, x991001, x991002, x991003, x991004 => if x5 < (x990004.length : Int) then (if 0 ≤ x5 then (if x5 < (x991004.length : Int) then (if (!(((rd_Mark x990004 x5).f0) == ((rd_Mark x991004 x5).f0)) || (!(((rd_Mark x990004 x5).f1) == ((rd_Mark x991004 x5).f1)))) = true then (some false) else (laws_sameMaker.l0 k (wrap64 (x5 + 1)) x990000 x990001 x990002 x990003 x990004 x991000 x991001 x991002 x991003 x991004)) else (none)) else (none)) else (some true)
end
def laws_sameMaker.f (k : Nat) (a0_0 : Int) (a0_1 : Int) (a0_2 : Int) (a0_3 : Int) (l0_4 : List (S_Mark)) (a1_0 : Int) (a1_1 : Int) (a1_2 : Int) (a1_3 : Int) (l1_4 : List (S_Mark)) : Option (Bool) := if a0_0 = a1_0 then (if a0_1 = a1_1 then (if a0_2 = a1_2 then (if a0_3 = a1_3 then (laws_sameMaker.j0 k ((l0_4.length : Int) != (l1_4.length : Int)) a0_0 a0_1 a0_2 a0_3 l0_4 a1_0 a1_1 a1_2 a1_3 l1_4) else (laws_sameMaker.j0 k true a0_0 a0_1 a0_2 a0_3 l0_4 a1_0 a1_1 a1_2 a1_3 l1_4)) else (laws_sameMaker.j0 k true a0_0 a0_1 a0_2 a0_3 l0_4 a1_0 a1_1 a1_2 a1_3 l1_4)) else (laws_sameMaker.j0 k true a0_0 a0_1 a0_2 a0_3 l0_4 a1_0 a1_1 a1_2 a1_3 l1_4)) else (laws_sameMaker.j0 k true a0_0 a0_1 a0_2 a0_3 l0_4 a1_0 a1_1 a1_2 a1_3 l1_4)
theorem laws_sameMaker.mono_l : ∀ k, (∀ y0 y1 y2 y3 y4 y5 y6 y7 y8 y9 y10, LeO (laws_sameMaker.j0 k y0 y1 y2 y3 y4 y5 y6 y7 y8 y9 y10) (laws_sameMaker.j0 (k + 1) y0 y1 y2 y3 y4 y5 y6 y7 y8 y9 y10)) ∧ (∀ y0 y1 y2 y3 y4 y5 y6 y7 y8 y9 y10, LeO (laws_sameMaker.l0 k y0 y1 y2 y3 y4 y5 y6 y7 y8 y9 y10) (laws_sameMaker.l0 (k + 1) y0 y1 y2 y3 y4 y5 y6 y7 y8 y9 y10))
  | 0 => ⟨fun _ _ _ _ _ _ _ _ _ _ _ r h => by simp [laws_sameMaker.j0] at h, fun _ _ _ _ _ _ _ _ _ _ _ r h => by simp [laws_sameMaker.l0] at h⟩
  | k + 1 => by
    obtain ⟨ih0, ih1⟩ := laws_sameMaker.mono_l k
    refine ⟨?_, ?_⟩
    · intro y0 y1 y2 y3 y4 y5 y6 y7 y8 y9 y10
      unfold laws_sameMaker.j0
      exact qdh2_
    · intro y0 y1 y2 y3 y4 y5 y6 y7 y8 y9 y10
      unfold laws_sameMaker.l0
      exact qdh2_
theorem laws_sameMaker.mono : ∀ a0 a1 a2 a3 a4 a5 a6 a7 a8 a9 k, LeO (laws_sameMaker.f k a0 a1 a2 a3 a4 a5 a6 a7 a8 a9) (laws_sameMaker.f (k + 1) a0 a1 a2 a3 a4 a5 a6 a7 a8 a9) := by
  intro a0 a1 a2 a3 a4 a5 a6 a7 a8 a9 k
  obtain ⟨ih0, ih1⟩ := laws_sameMaker.mono_l k
  unfold laws_sameMaker.f
  exact qdh2_
set_option maxHeartbeats 8000000 in
set_option maxRecDepth 100000 in
theorem laws_sameMaker.calls (k : Nat) (a0_0 : Int) (a0_1 : Int) (a0_2 : Int) (a0_3 : Int) (A0_4 : Option Addr) (c0_4 : Nat) (l0_4 : List (S_Mark)) (a1_0 : Int) (a1_1 : Int) (a1_2 : Int) (a1_3 : Int) (A1_4 : Option Addr) (c1_4 : Nat) (l1_4 : List (S_Mark)) (r : Bool) (w : World) (hr0_4 : Kd.C k_Mark w A0_4 l0_4.length l0_4) (hc0_4 : l0_4.length ≤ c0_4) (hr1_4 : Kd.C k_Mark w A1_4 l1_4.length l1_4) (hc1_4 : l1_4.length ≤ c1_4) (h : laws_sameMaker.f k a0_0 a0_1 a0_2 a0_3 l0_4 a1_0 a1_1 a1_2 a1_3 l1_4 = some r) :
    Calls Try.prog 39 #[.agg #[.int .i64 a0_0, .int .i64 a0_1, .int .i64 a0_2, .int .i64 a0_3, .slice A0_4 l0_4.length c0_4], .agg #[.int .i64 a1_0, .int .i64 a1_1, .int .i64 a1_2, .int .i64 a1_3, .slice A1_4 l1_4.length c1_4]] w fun e w' => e = .returned (.bool r) ∧ Below w.heap.size w w' := by
  have hu38 := Try.underlying38
  have hu110 := Try.underlying110
  have HR0_4 := Aside0.mk hr0_4
  have HC0_4 := Aside0.mk hc0_4
  clear hr0_4 hc0_4
  have HR1_4 := Aside0.mk hr1_4
  have HC1_4 := Aside0.mk hc1_4
  clear hr1_4 hc1_4
  have HB := Aside0.mk (Below.refl w.heap.size w)
  have H : (if a0_0 = a1_0 then (if a0_1 = a1_1 then (if a0_2 = a1_2 then (if a0_3 = a1_3 then (laws_sameMaker.j0 k ((l0_4.length : Int) != (l1_4.length : Int)) a0_0 a0_1 a0_2 a0_3 l0_4 a1_0 a1_1 a1_2 a1_3 l1_4) else (laws_sameMaker.j0 k true a0_0 a0_1 a0_2 a0_3 l0_4 a1_0 a1_1 a1_2 a1_3 l1_4)) else (laws_sameMaker.j0 k true a0_0 a0_1 a0_2 a0_3 l0_4 a1_0 a1_1 a1_2 a1_3 l1_4)) else (laws_sameMaker.j0 k true a0_0 a0_1 a0_2 a0_3 l0_4 a1_0 a1_1 a1_2 a1_3 l1_4)) else (laws_sameMaker.j0 k true a0_0 a0_1 a0_2 a0_3 l0_4 a1_0 a1_1 a1_2 a1_3 l1_4)) = some r := h
  clear h
  have HC3 := Aside0.mk H
  clear H
  go_enter Try.func39, Try.ntmps39
  go_upto_region 1 with (first | (go_quiet (fail)) | ((with_reducible refine gate_dst (N := 2) rfl ?_); (try (refine gate_guard (by rfl) ?_; dsimp only)); refine box_event ?hg (N := 2) ?hd (cs := #[.int .i64 a0_0, .int .i64 a0_1, .int .i64 a0_2, .int .i64 a0_3, .slice A0_4 l0_4.length c0_4]) (t := 38) ?hr ?_; (case hd => rfl); (case hg => rfl); (case hr => first | (go_simp; done) | (go_simp; rfl)); intro gb989 hg w4 hbox hb; have BK989 := Aside0.mk (hbox); have GW989 := Aside0.mk ((by rw [hg]; exact (below_size (qd3_)) : w.heap.size ≤ gb989)); have GE989 := Aside0.mk ((by rw [hg]; exact (below_size (qd3_)) : w.heap.size ≤ gb989)); replace HB := Aside0.mk (below_step (qd3_) hb); clear hb hbox hg) | ((with_reducible refine gate_dst (N := 3) rfl ?_); (try (refine gate_guard (by rfl) ?_; dsimp only)); refine box_event ?hg (N := 3) ?hd (cs := #[.int .i64 a1_0, .int .i64 a1_1, .int .i64 a1_2, .int .i64 a1_3, .slice A1_4 l1_4.length c1_4]) (t := 38) ?hr ?_; (case hd => rfl); (case hg => rfl); (case hr => first | (go_simp; done) | (go_simp; rfl)); intro gb990 hg w5 hbox hb; have BK990 := Aside0.mk (hbox); have GW990 := Aside0.mk ((by rw [hg]; exact (below_size (qd12_)) : w.heap.size ≤ gb990)); have GE990 := Aside0.mk ((by rw [hg]; exact (below_size (qd12_)) : w.heap.size ≤ gb990)); have NB989_990 := Aside0.mk ((by rw [hg]; exact Nat.ne_of_lt (blk_lt (g := gb989) (o := .cells #[.int .i64 a0_0, .int .i64 a0_1, .int .i64 a0_2, .int .i64 a0_3, .slice A0_4 l0_4.length c0_4] 38 (0, 0)) (bq_ BK989.out)) : gb989 ≠ gb990)); have NB990_989 := Aside0.mk ((by rw [hg]; exact Nat.ne_of_gt (blk_lt (g := gb989) (o := .cells #[.int .i64 a0_0, .int .i64 a0_1, .int .i64 a0_2, .int .i64 a0_3, .slice A0_4 l0_4.length c0_4] 38 (0, 0)) (bq_ BK989.out)) : gb990 ≠ gb989)); replace BK989 := Aside0.mk (blk_below (g := gb989) (o := .cells #[.int .i64 a0_0, .int .i64 a0_1, .int .i64 a0_2, .int .i64 a0_3, .slice A0_4 l0_4.length c0_4] 38 (0, 0)) (bq_ BK989.out) hb); replace HB := Aside0.mk (below_step (qd12_) hb); clear hb hbox hg))
  (try simp only [Act.put, List.setIfInBounds_toArray, List.set_cons_zero, List.set_cons_succ])
  go_cut [40] (fun v40 wc => ∃ (kq : Nat) (x40_2 : Bool), v40 = .bool x40_2 ∧ Aside0 (laws_sameMaker.j0 kq x40_2 a0_0 a0_1 a0_2 a0_3 l0_4 a1_0 a1_1 a1_2 a1_3 l1_4 = some r) ∧ Aside0 (kq ≤ k) ∧ Aside0 (wc.heap[gb989]? = some (.cells #[.int .i64 a0_0, .int .i64 a0_1, .int .i64 a0_2, .int .i64 a0_3, (.slice A0_4 l0_4.length c0_4)] 38 (0, 0))) ∧ Aside0 (wc.heap[gb990]? = some (.cells #[.int .i64 a1_0, .int .i64 a1_1, .int .i64 a1_2, .int .i64 a1_3, (.slice A1_4 l1_4.length c1_4)] 38 (0, 0))) ∧ Aside0 (Below w.heap.size w wc))
  case first =>
    have H := HC3.out
    clear HC3
    by_cases c6 : a0_0 = a1_0
    · rw [if_pos c6] at H
      have c6b0 : (a0_0 == a1_0) = true := beq_iff_eq.mpr c6
      have c6b1 : (a0_0 != a1_0) = false := bne_eq_false_iff_eq.mpr c6
      clear c6
      (first | rw [c6b0] | (simp only [i64_w, i32_w]; rw [c6b0]) | rw [c6b4] | rw [c6b3] | skip)
      by_cases c7 : a0_1 = a1_1
      · rw [if_pos c7] at H
        have c7b0 : (a0_1 == a1_1) = true := beq_iff_eq.mpr c7
        have c7b1 : (a0_1 != a1_1) = false := bne_eq_false_iff_eq.mpr c7
        clear c7
        by_cases c8 : a0_2 = a1_2
        · rw [if_pos c8] at H
          have c8b0 : (a0_2 == a1_2) = true := beq_iff_eq.mpr c8
          have c8b1 : (a0_2 != a1_2) = false := bne_eq_false_iff_eq.mpr c8
          clear c8
          by_cases c9 : a0_3 = a1_3
          · rw [if_pos c9] at H
            have c9b0 : (a0_3 == a1_3) = true := beq_iff_eq.mpr c9
            have c9b1 : (a0_3 != a1_3) = false := bne_eq_false_iff_eq.mpr c9
            clear c9
            have H' := Aside0.mk H
            clear H
            have hnb10 := NB989_990.out
            have hnc10 := NB990_989.out
            have hcz11_0 : w5.cell? ⟨gb989, 0, none⟩ = some (.int .i64 a0_0) := bc_ BK989 0
            have hcz11_1 : w5.cell? ⟨gb989, 1, none⟩ = some (.int .i64 a0_1) := bc_ BK989 1
            have hcz11_2 : w5.cell? ⟨gb989, 2, none⟩ = some (.int .i64 a0_2) := bc_ BK989 2
            have hcz11_3 : w5.cell? ⟨gb989, 3, none⟩ = some (.int .i64 a0_3) := bc_ BK989 3
            have hcz11_4 : w5.cell? ⟨gb989, 4, none⟩ = some (.slice A0_4 l0_4.length c0_4) := bc_ BK989 4
            have hfz11_0 := blk_frozen BK989.out 0
            have hfz11_1 := blk_frozen BK989.out 1
            have hfz11_2 := blk_frozen BK989.out 2
            have hfz11_3 := blk_frozen BK989.out 3
            have hfz11_4 := blk_frozen BK989.out 4
            have hcz12_0 : w5.cell? ⟨gb990, 0, none⟩ = some (.int .i64 a1_0) := bc_ BK990 0
            have hcz12_1 : w5.cell? ⟨gb990, 1, none⟩ = some (.int .i64 a1_1) := bc_ BK990 1
            have hcz12_2 : w5.cell? ⟨gb990, 2, none⟩ = some (.int .i64 a1_2) := bc_ BK990 2
            have hcz12_3 : w5.cell? ⟨gb990, 3, none⟩ = some (.int .i64 a1_3) := bc_ BK990 3
            have hcz12_4 : w5.cell? ⟨gb990, 4, none⟩ = some (.slice A1_4 l1_4.length c1_4) := bc_ BK990 4
            have hfz12_0 := blk_frozen BK990.out 0
            have hfz12_1 := blk_frozen BK990.out 1
            have hfz12_2 := blk_frozen BK990.out 2
            have hfz12_3 := blk_frozen BK990.out 3
            have hfz12_4 := blk_frozen BK990.out 4
            go_wp2
            repeat (go_quiet (fail); try go_wp2)
            go_meet
            case rel => exact ⟨_, (((l0_4.length : Int) != (l1_4.length : Int))), (qd11_), H', ⟨qd16_⟩, ⟨bq_ BK989.out⟩, ⟨bq_ BK990.out⟩, ⟨qd1_⟩⟩
          · rw [if_neg c9] at H
            have c9b0 : (a0_3 == a1_3) = false := beq_eq_false_iff_ne.mpr c9
            have c9b1 : (a0_3 != a1_3) = true := bne_iff_ne.mpr c9
            have H' := Aside0.mk H
            clear H
            have hnb13 := NB989_990.out
            have hnc13 := NB990_989.out
            have hcz14_0 : w5.cell? ⟨gb989, 0, none⟩ = some (.int .i64 a0_0) := bc_ BK989 0
            have hcz14_1 : w5.cell? ⟨gb989, 1, none⟩ = some (.int .i64 a0_1) := bc_ BK989 1
            have hcz14_2 : w5.cell? ⟨gb989, 2, none⟩ = some (.int .i64 a0_2) := bc_ BK989 2
            have hcz14_3 : w5.cell? ⟨gb989, 3, none⟩ = some (.int .i64 a0_3) := bc_ BK989 3
            have hcz14_4 : w5.cell? ⟨gb989, 4, none⟩ = some (.slice A0_4 l0_4.length c0_4) := bc_ BK989 4
            have hfz14_0 := blk_frozen BK989.out 0
            have hfz14_1 := blk_frozen BK989.out 1
            have hfz14_2 := blk_frozen BK989.out 2
            have hfz14_3 := blk_frozen BK989.out 3
            have hfz14_4 := blk_frozen BK989.out 4
            have hcz15_0 : w5.cell? ⟨gb990, 0, none⟩ = some (.int .i64 a1_0) := bc_ BK990 0
            have hcz15_1 : w5.cell? ⟨gb990, 1, none⟩ = some (.int .i64 a1_1) := bc_ BK990 1
            have hcz15_2 : w5.cell? ⟨gb990, 2, none⟩ = some (.int .i64 a1_2) := bc_ BK990 2
            have hcz15_3 : w5.cell? ⟨gb990, 3, none⟩ = some (.int .i64 a1_3) := bc_ BK990 3
            have hcz15_4 : w5.cell? ⟨gb990, 4, none⟩ = some (.slice A1_4 l1_4.length c1_4) := bc_ BK990 4
            have hfz15_0 := blk_frozen BK990.out 0
            have hfz15_1 := blk_frozen BK990.out 1
            have hfz15_2 := blk_frozen BK990.out 2
            have hfz15_3 := blk_frozen BK990.out 3
            have hfz15_4 := blk_frozen BK990.out 4
            go_wp2
            repeat (go_quiet (fail); try go_wp2)
            go_meet
            case rel => exact ⟨_, (true), (qd11_), H', ⟨qd16_⟩, ⟨bq_ BK989.out⟩, ⟨bq_ BK990.out⟩, ⟨qd1_⟩⟩
        · rw [if_neg c8] at H
          have c8b0 : (a0_2 == a1_2) = false := beq_eq_false_iff_ne.mpr c8
          have c8b1 : (a0_2 != a1_2) = true := bne_iff_ne.mpr c8
          have H' := Aside0.mk H
          clear H
          have hnb16 := NB989_990.out
          have hnc16 := NB990_989.out
          have hcz17_0 : w5.cell? ⟨gb989, 0, none⟩ = some (.int .i64 a0_0) := bc_ BK989 0
          have hcz17_1 : w5.cell? ⟨gb989, 1, none⟩ = some (.int .i64 a0_1) := bc_ BK989 1
          have hcz17_2 : w5.cell? ⟨gb989, 2, none⟩ = some (.int .i64 a0_2) := bc_ BK989 2
          have hcz17_3 : w5.cell? ⟨gb989, 3, none⟩ = some (.int .i64 a0_3) := bc_ BK989 3
          have hcz17_4 : w5.cell? ⟨gb989, 4, none⟩ = some (.slice A0_4 l0_4.length c0_4) := bc_ BK989 4
          have hfz17_0 := blk_frozen BK989.out 0
          have hfz17_1 := blk_frozen BK989.out 1
          have hfz17_2 := blk_frozen BK989.out 2
          have hfz17_3 := blk_frozen BK989.out 3
          have hfz17_4 := blk_frozen BK989.out 4
          have hcz18_0 : w5.cell? ⟨gb990, 0, none⟩ = some (.int .i64 a1_0) := bc_ BK990 0
          have hcz18_1 : w5.cell? ⟨gb990, 1, none⟩ = some (.int .i64 a1_1) := bc_ BK990 1
          have hcz18_2 : w5.cell? ⟨gb990, 2, none⟩ = some (.int .i64 a1_2) := bc_ BK990 2
          have hcz18_3 : w5.cell? ⟨gb990, 3, none⟩ = some (.int .i64 a1_3) := bc_ BK990 3
          have hcz18_4 : w5.cell? ⟨gb990, 4, none⟩ = some (.slice A1_4 l1_4.length c1_4) := bc_ BK990 4
          have hfz18_0 := blk_frozen BK990.out 0
          have hfz18_1 := blk_frozen BK990.out 1
          have hfz18_2 := blk_frozen BK990.out 2
          have hfz18_3 := blk_frozen BK990.out 3
          have hfz18_4 := blk_frozen BK990.out 4
          go_wp2
          repeat (go_quiet (fail); try go_wp2)
          go_meet
          case rel => exact ⟨_, (true), (qd11_), H', ⟨qd16_⟩, ⟨bq_ BK989.out⟩, ⟨bq_ BK990.out⟩, ⟨qd1_⟩⟩
      · rw [if_neg c7] at H
        have c7b0 : (a0_1 == a1_1) = false := beq_eq_false_iff_ne.mpr c7
        have c7b1 : (a0_1 != a1_1) = true := bne_iff_ne.mpr c7
        have H' := Aside0.mk H
        clear H
        have hnb19 := NB989_990.out
        have hnc19 := NB990_989.out
        have hcz20_0 : w5.cell? ⟨gb989, 0, none⟩ = some (.int .i64 a0_0) := bc_ BK989 0
        have hcz20_1 : w5.cell? ⟨gb989, 1, none⟩ = some (.int .i64 a0_1) := bc_ BK989 1
        have hcz20_2 : w5.cell? ⟨gb989, 2, none⟩ = some (.int .i64 a0_2) := bc_ BK989 2
        have hcz20_3 : w5.cell? ⟨gb989, 3, none⟩ = some (.int .i64 a0_3) := bc_ BK989 3
        have hcz20_4 : w5.cell? ⟨gb989, 4, none⟩ = some (.slice A0_4 l0_4.length c0_4) := bc_ BK989 4
        have hfz20_0 := blk_frozen BK989.out 0
        have hfz20_1 := blk_frozen BK989.out 1
        have hfz20_2 := blk_frozen BK989.out 2
        have hfz20_3 := blk_frozen BK989.out 3
        have hfz20_4 := blk_frozen BK989.out 4
        have hcz21_0 : w5.cell? ⟨gb990, 0, none⟩ = some (.int .i64 a1_0) := bc_ BK990 0
        have hcz21_1 : w5.cell? ⟨gb990, 1, none⟩ = some (.int .i64 a1_1) := bc_ BK990 1
        have hcz21_2 : w5.cell? ⟨gb990, 2, none⟩ = some (.int .i64 a1_2) := bc_ BK990 2
        have hcz21_3 : w5.cell? ⟨gb990, 3, none⟩ = some (.int .i64 a1_3) := bc_ BK990 3
        have hcz21_4 : w5.cell? ⟨gb990, 4, none⟩ = some (.slice A1_4 l1_4.length c1_4) := bc_ BK990 4
        have hfz21_0 := blk_frozen BK990.out 0
        have hfz21_1 := blk_frozen BK990.out 1
        have hfz21_2 := blk_frozen BK990.out 2
        have hfz21_3 := blk_frozen BK990.out 3
        have hfz21_4 := blk_frozen BK990.out 4
        go_wp2
        repeat (go_quiet (fail); try go_wp2)
        go_meet
        case rel => exact ⟨_, (true), (qd11_), H', ⟨qd16_⟩, ⟨bq_ BK989.out⟩, ⟨bq_ BK990.out⟩, ⟨qd1_⟩⟩
    · rw [if_neg c6] at H
      have c6b0 : (a0_0 == a1_0) = false := beq_eq_false_iff_ne.mpr c6
      have c6b1 : (a0_0 != a1_0) = true := bne_iff_ne.mpr c6
      (first | rw [c6b0] | (simp only [i64_w, i32_w]; rw [c6b0]) | rw [c6b4] | rw [c6b3] | skip)
      have H' := Aside0.mk H
      clear H
      have hnb22 := NB989_990.out
      have hnc22 := NB990_989.out
      have hcz23_0 : w5.cell? ⟨gb989, 0, none⟩ = some (.int .i64 a0_0) := bc_ BK989 0
      have hcz23_1 : w5.cell? ⟨gb989, 1, none⟩ = some (.int .i64 a0_1) := bc_ BK989 1
      have hcz23_2 : w5.cell? ⟨gb989, 2, none⟩ = some (.int .i64 a0_2) := bc_ BK989 2
      have hcz23_3 : w5.cell? ⟨gb989, 3, none⟩ = some (.int .i64 a0_3) := bc_ BK989 3
      have hcz23_4 : w5.cell? ⟨gb989, 4, none⟩ = some (.slice A0_4 l0_4.length c0_4) := bc_ BK989 4
      have hfz23_0 := blk_frozen BK989.out 0
      have hfz23_1 := blk_frozen BK989.out 1
      have hfz23_2 := blk_frozen BK989.out 2
      have hfz23_3 := blk_frozen BK989.out 3
      have hfz23_4 := blk_frozen BK989.out 4
      have hcz24_0 : w5.cell? ⟨gb990, 0, none⟩ = some (.int .i64 a1_0) := bc_ BK990 0
      have hcz24_1 : w5.cell? ⟨gb990, 1, none⟩ = some (.int .i64 a1_1) := bc_ BK990 1
      have hcz24_2 : w5.cell? ⟨gb990, 2, none⟩ = some (.int .i64 a1_2) := bc_ BK990 2
      have hcz24_3 : w5.cell? ⟨gb990, 3, none⟩ = some (.int .i64 a1_3) := bc_ BK990 3
      have hcz24_4 : w5.cell? ⟨gb990, 4, none⟩ = some (.slice A1_4 l1_4.length c1_4) := bc_ BK990 4
      have hfz24_0 := blk_frozen BK990.out 0
      have hfz24_1 := blk_frozen BK990.out 1
      have hfz24_2 := blk_frozen BK990.out 2
      have hfz24_3 := blk_frozen BK990.out 3
      have hfz24_4 := blk_frozen BK990.out 4
      go_wp2
      repeat (go_quiet (fail); try go_wp2)
      go_meet
      case rel => exact ⟨_, (true), (qd11_), H', ⟨qd16_⟩, ⟨bq_ BK989.out⟩, ⟨bq_ BK990.out⟩, ⟨qd1_⟩⟩
  case rest =>
    clear HC3
    try clear c1
    try clear c2
    try clear p2
    try clear c3
    try clear c6
    try clear c6b0
    try clear c6b1
    try clear c7
    try clear c7b0
    try clear c7b1
    try clear c8
    try clear c8b0
    try clear c8b1
    try clear c9
    try clear c9b0
    try clear c9b1
    try clear c10
    try clear c13
    try clear c16
    try clear c19
    try clear c22
    try clear hcz11_0
    try clear hcz11_1
    try clear hcz11_2
    try clear hcz11_3
    try clear hcz11_4
    try clear hcz12_0
    try clear hcz12_1
    try clear hcz12_2
    try clear hcz12_3
    try clear hcz12_4
    try clear hcz14_0
    try clear hcz14_1
    try clear hcz14_2
    try clear hcz14_3
    try clear hcz14_4
    try clear hcz15_0
    try clear hcz15_1
    try clear hcz15_2
    try clear hcz15_3
    try clear hcz15_4
    try clear hcz17_0
    try clear hcz17_1
    try clear hcz17_2
    try clear hcz17_3
    try clear hcz17_4
    try clear hcz18_0
    try clear hcz18_1
    try clear hcz18_2
    try clear hcz18_3
    try clear hcz18_4
    try clear hcz20_0
    try clear hcz20_1
    try clear hcz20_2
    try clear hcz20_3
    try clear hcz20_4
    try clear hcz21_0
    try clear hcz21_1
    try clear hcz21_2
    try clear hcz21_3
    try clear hcz21_4
    try clear hcz23_0
    try clear hcz23_1
    try clear hcz23_2
    try clear hcz23_3
    try clear hcz23_4
    try clear hcz24_0
    try clear hcz24_1
    try clear hcz24_2
    try clear hcz24_3
    try clear hcz24_4
    try clear hfz11_0
    try clear hfz11_1
    try clear hfz11_2
    try clear hfz11_3
    try clear hfz11_4
    try clear hfz12_0
    try clear hfz12_1
    try clear hfz12_2
    try clear hfz12_3
    try clear hfz12_4
    try clear hfz14_0
    try clear hfz14_1
    try clear hfz14_2
    try clear hfz14_3
    try clear hfz14_4
    try clear hfz15_0
    try clear hfz15_1
    try clear hfz15_2
    try clear hfz15_3
    try clear hfz15_4
    try clear hfz17_0
    try clear hfz17_1
    try clear hfz17_2
    try clear hfz17_3
    try clear hfz17_4
    try clear hfz18_0
    try clear hfz18_1
    try clear hfz18_2
    try clear hfz18_3
    try clear hfz18_4
    try clear hfz20_0
    try clear hfz20_1
    try clear hfz20_2
    try clear hfz20_3
    try clear hfz20_4
    try clear hfz21_0
    try clear hfz21_1
    try clear hfz21_2
    try clear hfz21_3
    try clear hfz21_4
    try clear hfz23_0
    try clear hfz23_1
    try clear hfz23_2
    try clear hfz23_3
    try clear hfz23_4
    try clear hfz24_0
    try clear hfz24_1
    try clear hfz24_2
    try clear hfz24_3
    try clear hfz24_4
    obtain ⟨kq, x40_2, rfl, HA, HJ2, BK989, BK990, HB⟩ := hcut
    cases kq with
    | zero => exact absurd HA.out (by simp [laws_sameMaker.j0])
    | succ kj2 =>
      have H := HA.out
      clear HA
      simp only [laws_sameMaker.j0] at H
      by_cases c25 : x40_2 = true
      · subst c25
        have H1 : (some false) = some r := by rw [if_pos rfl] at H; exact H
        clear H
        have H := H1
        clear H1
        obtain rfl := Option.some.inj H
        go_wp2
        repeat (go_quiet (fail); try go_wp2)
        go_ret
        exact ⟨qd7_, qd1_⟩
      · replace c25 := Bool.eq_false_iff.mpr c25
        subst c25
        have H1 : (laws_sameMaker.l0 kj2 0 a0_0 a0_1 a0_2 a0_3 l0_4 a1_0 a1_1 a1_2 a1_3 l1_4) = some r := by rw [if_neg (show ¬ (false = true) by decide)] at H; exact H
        clear H
        have H := H1
        clear H1
        have H' := Aside0.mk H
        clear H
        go_wp2
        repeat (go_quiet (fail); try go_wp2)
        go_loopg [5] kj2 (fun kq v5 w' => ∃ (x5_2 : Int), v5 = .int .i64 x5_2 ∧ Aside0 (laws_sameMaker.l0 kq x5_2 a0_0 a0_1 a0_2 a0_3 l0_4 a1_0 a1_1 a1_2 a1_3 l1_4 = some r) ∧ Aside0 (kq ≤ kj2) ∧ Aside0 (w'.heap[gb989]? = some (.cells #[.int .i64 a0_0, .int .i64 a0_1, .int .i64 a0_2, .int .i64 a0_3, (.slice A0_4 l0_4.length c0_4)] 38 (0, 0))) ∧ Aside0 (w'.heap[gb990]? = some (.cells #[.int .i64 a1_0, .int .i64 a1_1, .int .i64 a1_2, .int .i64 a1_3, (.slice A1_4 l1_4.length c1_4)] 38 (0, 0))) ∧ Aside0 (Below w.heap.size w w'))
        case atStart => exact ⟨(0), (qd11_), H', ⟨Nat.le_refl _⟩, ⟨bq_ BK989.out⟩, ⟨bq_ BK990.out⟩, ⟨qd1_⟩⟩
        case round =>
          clear H'
          try clear c1
          try clear c2
          try clear p2
          try clear c3
          try clear c6
          try clear c6b0
          try clear c6b1
          try clear c7
          try clear c7b0
          try clear c7b1
          try clear c8
          try clear c8b0
          try clear c8b1
          try clear c9
          try clear c9b0
          try clear c9b1
          try clear c10
          try clear c13
          try clear c16
          try clear c19
          try clear c22
          try clear c25
          try clear hcz11_0
          try clear hcz11_1
          try clear hcz11_2
          try clear hcz11_3
          try clear hcz11_4
          try clear hcz12_0
          try clear hcz12_1
          try clear hcz12_2
          try clear hcz12_3
          try clear hcz12_4
          try clear hcz14_0
          try clear hcz14_1
          try clear hcz14_2
          try clear hcz14_3
          try clear hcz14_4
          try clear hcz15_0
          try clear hcz15_1
          try clear hcz15_2
          try clear hcz15_3
          try clear hcz15_4
          try clear hcz17_0
          try clear hcz17_1
          try clear hcz17_2
          try clear hcz17_3
          try clear hcz17_4
          try clear hcz18_0
          try clear hcz18_1
          try clear hcz18_2
          try clear hcz18_3
          try clear hcz18_4
          try clear hcz20_0
          try clear hcz20_1
          try clear hcz20_2
          try clear hcz20_3
          try clear hcz20_4
          try clear hcz21_0
          try clear hcz21_1
          try clear hcz21_2
          try clear hcz21_3
          try clear hcz21_4
          try clear hcz23_0
          try clear hcz23_1
          try clear hcz23_2
          try clear hcz23_3
          try clear hcz23_4
          try clear hcz24_0
          try clear hcz24_1
          try clear hcz24_2
          try clear hcz24_3
          try clear hcz24_4
          try clear hfz11_0
          try clear hfz11_1
          try clear hfz11_2
          try clear hfz11_3
          try clear hfz11_4
          try clear hfz12_0
          try clear hfz12_1
          try clear hfz12_2
          try clear hfz12_3
          try clear hfz12_4
          try clear hfz14_0
          try clear hfz14_1
          try clear hfz14_2
          try clear hfz14_3
          try clear hfz14_4
          try clear hfz15_0
          try clear hfz15_1
          try clear hfz15_2
          try clear hfz15_3
          try clear hfz15_4
          try clear hfz17_0
          try clear hfz17_1
          try clear hfz17_2
          try clear hfz17_3
          try clear hfz17_4
          try clear hfz18_0
          try clear hfz18_1
          try clear hfz18_2
          try clear hfz18_3
          try clear hfz18_4
          try clear hfz20_0
          try clear hfz20_1
          try clear hfz20_2
          try clear hfz20_3
          try clear hfz20_4
          try clear hfz21_0
          try clear hfz21_1
          try clear hfz21_2
          try clear hfz21_3
          try clear hfz21_4
          try clear hfz23_0
          try clear hfz23_1
          try clear hfz23_2
          try clear hfz23_3
          try clear hfz23_4
          try clear hfz24_0
          try clear hfz24_1
          try clear hfz24_2
          try clear hfz24_3
          try clear hfz24_4
          try clear p2
          obtain ⟨x5_2, rfl, HA, HK2, BK989, BK990, HB⟩ := hrel
          cases gk with
          | zero => exact absurd HA.out (by simp [laws_sameMaker.l0])
          | succ k2 =>
            have H := HA.out
            clear HA
            simp only [laws_sameMaker.l0] at H
            by_cases c26 : x5_2 < (l0_4.length : Int)
            · rw [if_pos c26] at H
              have c26b0 : decide (x5_2 < (l0_4.length : Int)) = true := decide_eq_true c26
              clear c26
              by_cases c27 : 0 ≤ x5_2
              · rw [if_pos c27] at H
                have c27b0 : decide (0 ≤ x5_2) = true := decide_eq_true c27
                clear c27
                by_cases c28 : x5_2 < (l1_4.length : Int)
                · rw [if_pos c28] at H
                  have c28b0 : decide (x5_2 < (l1_4.length : Int)) = true := decide_eq_true c28
                  clear c28
                  by_cases c29 : (!(((rd_Mark l0_4 x5_2).f0) == ((rd_Mark l1_4 x5_2).f0)) || (!(((rd_Mark l0_4 x5_2).f1) == ((rd_Mark l1_4 x5_2).f1)))) = true
                  · rw [if_pos c29] at H
                    have c29b0 : (!(((rd_Mark l0_4 x5_2).f0) == ((rd_Mark l1_4 x5_2).f0)) || (!(((rd_Mark l0_4 x5_2).f1) == ((rd_Mark l1_4 x5_2).f1)))) = true := c29
                    clear c29
                    obtain rfl := Option.some.inj H
                    have hnb30 := NB989_990.out
                    have hnc30 := NB990_989.out
                    have hcz31_0 : wr.cell? ⟨gb989, 0, none⟩ = some (.int .i64 a0_0) := bc_ BK989 0
                    have hcz31_1 : wr.cell? ⟨gb989, 1, none⟩ = some (.int .i64 a0_1) := bc_ BK989 1
                    have hcz31_2 : wr.cell? ⟨gb989, 2, none⟩ = some (.int .i64 a0_2) := bc_ BK989 2
                    have hcz31_3 : wr.cell? ⟨gb989, 3, none⟩ = some (.int .i64 a0_3) := bc_ BK989 3
                    have hcz31_4 : wr.cell? ⟨gb989, 4, none⟩ = some (.slice A0_4 l0_4.length c0_4) := bc_ BK989 4
                    have hfz31_0 := blk_frozen BK989.out 0
                    have hfz31_1 := blk_frozen BK989.out 1
                    have hfz31_2 := blk_frozen BK989.out 2
                    have hfz31_3 := blk_frozen BK989.out 3
                    have hfz31_4 := blk_frozen BK989.out 4
                    have p991 : 0 ≤ (x5_2 : Int) := of_decide_eq_true dt_
                    have q991 : x5_2 < (l0_4.length : Int) := of_decide_eq_true dt_
                    obtain ⟨ad991, e991, hx991_0, hx991_1⟩ := at_Mark HR0_4.out x5_2 p991 q991
                    cases e991
                    replace hx991_0 := hc_ HB hx991_0
                    replace hx991_1 := hc_ HB hx991_1
                    replace p991 := eq_true p991
                    replace q991 := eq_true q991
                    have hcz32_0 : wr.cell? ⟨gb990, 0, none⟩ = some (.int .i64 a1_0) := bc_ BK990 0
                    have hcz32_1 : wr.cell? ⟨gb990, 1, none⟩ = some (.int .i64 a1_1) := bc_ BK990 1
                    have hcz32_2 : wr.cell? ⟨gb990, 2, none⟩ = some (.int .i64 a1_2) := bc_ BK990 2
                    have hcz32_3 : wr.cell? ⟨gb990, 3, none⟩ = some (.int .i64 a1_3) := bc_ BK990 3
                    have hcz32_4 : wr.cell? ⟨gb990, 4, none⟩ = some (.slice A1_4 l1_4.length c1_4) := bc_ BK990 4
                    have hfz32_0 := blk_frozen BK990.out 0
                    have hfz32_1 := blk_frozen BK990.out 1
                    have hfz32_2 := blk_frozen BK990.out 2
                    have hfz32_3 := blk_frozen BK990.out 3
                    have hfz32_4 := blk_frozen BK990.out 4
                    have p992 : 0 ≤ (x5_2 : Int) := of_decide_eq_true dt_
                    have q992 : x5_2 < (l1_4.length : Int) := of_decide_eq_true dt_
                    obtain ⟨ad992, e992, hx992_0, hx992_1⟩ := at_Mark HR1_4.out x5_2 p992 q992
                    cases e992
                    replace hx992_0 := hc_ HB hx992_0
                    replace hx992_1 := hc_ HB hx992_1
                    replace p992 := eq_true p992
                    replace q992 := eq_true q992
                    go_wp2
                    repeat (go_quiet (fail); try go_wp2)
                    go_ret
                    exact ⟨qd7_, qd1_⟩
                  · rw [if_neg c29] at H
                    have c29b0 : (!(((rd_Mark l0_4 x5_2).f0) == ((rd_Mark l1_4 x5_2).f0)) || (!(((rd_Mark l0_4 x5_2).f1) == ((rd_Mark l1_4 x5_2).f1)))) = false := by simpa using c29
                    clear c29
                    have H' := Aside0.mk H
                    clear H
                    have hnb33 := NB989_990.out
                    have hnc33 := NB990_989.out
                    have hcz34_0 : wr.cell? ⟨gb989, 0, none⟩ = some (.int .i64 a0_0) := bc_ BK989 0
                    have hcz34_1 : wr.cell? ⟨gb989, 1, none⟩ = some (.int .i64 a0_1) := bc_ BK989 1
                    have hcz34_2 : wr.cell? ⟨gb989, 2, none⟩ = some (.int .i64 a0_2) := bc_ BK989 2
                    have hcz34_3 : wr.cell? ⟨gb989, 3, none⟩ = some (.int .i64 a0_3) := bc_ BK989 3
                    have hcz34_4 : wr.cell? ⟨gb989, 4, none⟩ = some (.slice A0_4 l0_4.length c0_4) := bc_ BK989 4
                    have hfz34_0 := blk_frozen BK989.out 0
                    have hfz34_1 := blk_frozen BK989.out 1
                    have hfz34_2 := blk_frozen BK989.out 2
                    have hfz34_3 := blk_frozen BK989.out 3
                    have hfz34_4 := blk_frozen BK989.out 4
                    have p991 : 0 ≤ (x5_2 : Int) := of_decide_eq_true dt_
                    have q991 : x5_2 < (l0_4.length : Int) := of_decide_eq_true dt_
                    obtain ⟨ad991, e991, hx991_0, hx991_1⟩ := at_Mark HR0_4.out x5_2 p991 q991
                    cases e991
                    replace hx991_0 := hc_ HB hx991_0
                    replace hx991_1 := hc_ HB hx991_1
                    replace p991 := eq_true p991
                    replace q991 := eq_true q991
                    have hcz35_0 : wr.cell? ⟨gb990, 0, none⟩ = some (.int .i64 a1_0) := bc_ BK990 0
                    have hcz35_1 : wr.cell? ⟨gb990, 1, none⟩ = some (.int .i64 a1_1) := bc_ BK990 1
                    have hcz35_2 : wr.cell? ⟨gb990, 2, none⟩ = some (.int .i64 a1_2) := bc_ BK990 2
                    have hcz35_3 : wr.cell? ⟨gb990, 3, none⟩ = some (.int .i64 a1_3) := bc_ BK990 3
                    have hcz35_4 : wr.cell? ⟨gb990, 4, none⟩ = some (.slice A1_4 l1_4.length c1_4) := bc_ BK990 4
                    have hfz35_0 := blk_frozen BK990.out 0
                    have hfz35_1 := blk_frozen BK990.out 1
                    have hfz35_2 := blk_frozen BK990.out 2
                    have hfz35_3 := blk_frozen BK990.out 3
                    have hfz35_4 := blk_frozen BK990.out 4
                    have p992 : 0 ≤ (x5_2 : Int) := of_decide_eq_true dt_
                    have q992 : x5_2 < (l1_4.length : Int) := of_decide_eq_true dt_
                    obtain ⟨ad992, e992, hx992_0, hx992_1⟩ := at_Mark HR1_4.out x5_2 p992 q992
                    cases e992
                    replace hx992_0 := hc_ HB hx992_0
                    replace hx992_1 := hc_ HB hx992_1
                    replace p992 := eq_true p992
                    replace q992 := eq_true q992
                    go_wp2
                    repeat (go_quiet (fail); try go_wp2)
                    go_roundg k2
                    case measure => have := HJ2.out; have := HK2.out; omega
                    case rel => exact ⟨(wrap64 (x5_2 + 1)), (qd11_), H', ⟨by have := HJ2.out; have := HK2.out; omega⟩, ⟨bq_ BK989.out⟩, ⟨bq_ BK990.out⟩, ⟨qd1_⟩⟩
                · rw [if_neg c28] at H
                  exact absurd H (by simp)
              · rw [if_neg c27] at H
                exact absurd H (by simp)
            · rw [if_neg c26] at H
              have c26b0 : decide (x5_2 < (l0_4.length : Int)) = false := decide_eq_false c26
              clear c26
              obtain rfl := Option.some.inj H
              have hnb36 := NB989_990.out
              have hnc36 := NB990_989.out
              have hcz37_0 : wr.cell? ⟨gb989, 0, none⟩ = some (.int .i64 a0_0) := bc_ BK989 0
              have hcz37_1 : wr.cell? ⟨gb989, 1, none⟩ = some (.int .i64 a0_1) := bc_ BK989 1
              have hcz37_2 : wr.cell? ⟨gb989, 2, none⟩ = some (.int .i64 a0_2) := bc_ BK989 2
              have hcz37_3 : wr.cell? ⟨gb989, 3, none⟩ = some (.int .i64 a0_3) := bc_ BK989 3
              have hcz37_4 : wr.cell? ⟨gb989, 4, none⟩ = some (.slice A0_4 l0_4.length c0_4) := bc_ BK989 4
              have hfz37_0 := blk_frozen BK989.out 0
              have hfz37_1 := blk_frozen BK989.out 1
              have hfz37_2 := blk_frozen BK989.out 2
              have hfz37_3 := blk_frozen BK989.out 3
              have hfz37_4 := blk_frozen BK989.out 4
              go_wp2
              repeat (go_quiet (fail); try go_wp2)
              go_ret
              exact ⟨qd7_, qd1_⟩
end
end Go.Proofs.Ythmjhhkheohgfaa.Q
