/- Made by a program of ours out of the print of the loaded functions: for each of some functions a plain function, and the walk that shows that a call comes to what it says. No condition but those of each theorem. -/
import Derived.Test.YthmjhhkheohgfaaZFnMakers0
import Derived.Test.YthmjhhkheohgfaaZFnMakersa
import Derived.Test.YthmjhhkheohgfaaZFnMakersb
import Derived.Test.YthmjhhkheohgfaaZFnMakersc
import Derived.Test.YthmjhhkheohgfaaZFnMakersd
import Derived.Test.YthmjhhkheohgfaaZFnMakerse
namespace Go.Proofs.Ythmjhhkheohgfaa.Q
open Go.RowKit Go.Proofs.YthmjhhkheohgfaaW.PrintWords Go.Proofs.YthmjhhkheohgfaaW.PrintLast Go.Proofs.YthmjhhkheohgfaaW.PrintMore
attribute [local go_sem] max2_int min2_int max_two min_two max_three min_three max_four min_four   -- for this text's walks alone
set_option linter.unusedVariables false
set_option linter.unusedSimpArgs false
theorem qf0_ {P : Prop} (h : P := by (try simp only [List.map_toArray, List.map_cons, List.map_nil]); first | done | rfl) : P := h
theorem qf1_ {P : Prop} (h : P := by (try simp only [List.length_append, List.length_singleton]); have := HN.out; omega) : P := h
theorem qf2_ {P : Prop} (h : P := by have h_ := HA2.out; simpa [hC, hE] using h_) : P := h
theorem qfh0_ {P : Prop} (h : P := by repeat' first | (with_reducible exact ih0 _) | (with_reducible exact ih1 _ _ _ _ _ _ _ _ _ _ _ _ _ _ _ _ _ _ _ _) | (with_reducible exact ih2 _ _ _ _ _ _ _ _ _ _ _ _ _ _ _ _ _ _ _) | (with_reducible exact ih3 _ _ _ _ _ _ _ _ _ _ _ _ _) | (with_reducible exact impl_MakerAsk.mono _ _ _ _ _ _ _ _) | (with_reducible exact impl_MakerOf.mono _ _ _ _) | (with_reducible exact impl_MakerOk.mono _ _ _ _ _ _ _) | (with_reducible exact impl_MakerPut.mono _ _ _ _ _ _ _ _ _ _) | (with_reducible exact impl_MakerSet.mono _ _ _ _ _ _ _) | (with_reducible exact laws_sameMaker.mono _ _ _ _ _ _ _ _ _ _ _) | (with_reducible exact spec_DrawMakerOf.mono _ _) | (with_reducible exact spec_DrawMakerOk.mono _ _) | (with_reducible exact spec_DrawMakerPut.mono _ _) | (with_reducible exact spec_DrawMakerSet.mono _ _) | (with_reducible exact spec_MakerOf.mono _ _ _ _) | (with_reducible exact spec_MakerOk.mono _ _ _ _ _ _ _) | (with_reducible exact spec_MakerPut.mono _ _ _ _ _ _ _ _ _ _) | (with_reducible exact spec_MakerSet.mono _ _ _ _ _ _ _) | (with_reducible exact LeO.refl _) | (with_reducible exact LeO.none _) | (with_reducible refine LeO.ite ?_ ?_) | (with_reducible refine LeO.bind ?_ (fun _ => ?_)) | exact ih0 _ | exact ih1 _ _ _ _ _ _ _ _ _ _ _ _ _ _ _ _ _ _ _ _ | exact ih2 _ _ _ _ _ _ _ _ _ _ _ _ _ _ _ _ _ _ _ | exact ih3 _ _ _ _ _ _ _ _ _ _ _ _ _ | exact impl_MakerAsk.mono _ _ _ _ _ _ _ _ | exact impl_MakerOf.mono _ _ _ _ | exact impl_MakerOk.mono _ _ _ _ _ _ _ | exact impl_MakerPut.mono _ _ _ _ _ _ _ _ _ _ | exact impl_MakerSet.mono _ _ _ _ _ _ _ | exact laws_sameMaker.mono _ _ _ _ _ _ _ _ _ _ _ | exact spec_DrawMakerOf.mono _ _ | exact spec_DrawMakerOk.mono _ _ | exact spec_DrawMakerPut.mono _ _ | exact spec_DrawMakerSet.mono _ _ | exact spec_MakerOf.mono _ _ _ _ | exact spec_MakerOk.mono _ _ _ _ _ _ _ | exact spec_MakerPut.mono _ _ _ _ _ _ _ _ _ _ | exact spec_MakerSet.mono _ _ _ _ _ _ _ | exact LeO.none _ | refine LeO.ite ?_ ?_ | refine LeO.bind ?_ (fun _ => ?_)) : P := h

/-! ### impl_MakerSet: function 27 -/
/-- is it the place of the same row and client -/
def setE (a x : S_Maker) : Bool := (x.f0 == a.f0) && (x.f1 == a.f1)
/-- is the new maker put ahead of x -/
def setC (a x : S_Maker) (p : Bool) : Bool := !p && (setE a x || (decide (x.f0 > a.f0) || ((x.f0 == a.f0) && decide (x.f1 > a.f1))))
def setL (a : S_Maker) : List S_Maker → Bool → List S_Maker
  | [], p => if p = true then [] else [a]
  | x :: t, p => (if setC a x p = true then [a] else []) ++ ((if setE a x = true then [] else [x]) ++ setL a t (p || setC a x p))
def impl_MakerSet.f (k : Nat) (l0 : List (S_Maker)) (a1_0 : Int) (a1_1 : Int) (a1_2 : Int) (a1_3 : Int) (l1_4 : List (S_Mark)) : Option (List (S_Maker)) :=
  (impl_copyMakers.f k l0).bind fun c => (impl_copyMaker.f a1_0 a1_1 a1_2 a1_3 l1_4).bind fun b => if c.length < 1000000000000 then some (setL ⟨b.1, b.2.1, b.2.2.1, b.2.2.2.1, b.2.2.2.2⟩ c false) else none
theorem impl_MakerSet.mono : ∀ a0 a1 a2 a3 a4 a5 k, LeO (impl_MakerSet.f k a0 a1 a2 a3 a4 a5) (impl_MakerSet.f (k + 1) a0 a1 a2 a3 a4 a5) := fun _ _ _ _ _ _ _ => LeO.bind (impl_copyMakers.mono _ _) (fun _ => LeO.refl _)
/-- a block that the answer's rows may be: of the copied list's, only what stood ahead of place i -/
def setOk (f : Nat → Nat) (N0 N1 : Nat) (vT : Value) (g3 i : Nat) (k : Nat) : Prop := (N0 ≤ k → k < N1 → some k ≠ vT.ownBlock ∧ f k < i) ∧ k ≠ g3
/-- what is known of memory while makers are set -/
structure SetS (w W : World) (N0 N1 : Nat) (f : Nat → Nat) (g3 : Nat) (c3 : Array Value) (vT : Value) (c : List S_Maker) (i : Nat) (vO : Value) (acc : List S_Maker) : Prop where
  below : Below w.heap.size w W
  n : w.heap.size ≤ N0 ∧ N0 ≤ N1 ∧ N1 ≤ W.heap.size
  b3 : W.heap[g3]? = some (.cells c3 38 (0, 0))
  ge3 : w.heap.size ≤ g3 ∧ g3 < N0
  tmp : (Kd.tag f k_Maker).R 38 W w.heap.size (fun k => N0 ≤ k ∧ k < N1) vT c.zipIdx
  out : Kd.S k_Maker 38 W w.heap.size (setOk f N0 N1 vT g3 i) vO acc
  ob : ∀ k, vO.ownBlock = some k → k < N0 ∨ N1 ≤ k
section
variable {w W W1 : World} {N0 N1 : Nat} {f : Nat → Nat} {g3 : Nat} {c3 : Array Value} {vT : Value} {c : List S_Maker} {i : Nat} {vO : Value} {acc : List S_Maker}
theorem SetS.step (h : SetS w W N0 N1 f g3 c3 vT c i vO acc) (hb : Below W.heap.size W W1) : SetS w W1 N0 N1 f g3 c3 vT c i vO acc :=
  ⟨below_step h.below hb, ⟨h.n.1, h.n.2.1, Nat.le_trans h.n.2.2 hb.size⟩, blk_below h.b3 hb, h.ge3, Kd.R_below h.tmp hb, Kd.S_below h.out hb, h.ob⟩
theorem SetS.next (h : SetS w W N0 N1 f g3 c3 vT c i vO acc) : SetS w W N0 N1 f g3 c3 vT c (i + 1) vO acc :=
  ⟨h.below, h.n, h.b3, h.ge3, h.tmp, Kd.S_mono h.out (fun k hk => ⟨fun h0 h1 => ⟨(hk.1 h0 h1).1, by have := (hk.1 h0 h1).2; omega⟩, hk.2⟩), h.ob⟩
theorem SetS.app (h : SetS w W N0 N1 f g3 c3 vT c i vO acc) {v1 : Value} {p : S_Maker} {j : Nat} (hS : Kd.S k_Maker 38 W1 w.heap.size (setOk f N0 N1 vT g3 j) v1 (acc ++ [p])) (hb : Below w.heap.size w W1) (hg : W.grownBy W1 vO.ownBlock) (hat : v1.ownBlock = vO.ownBlock ∨ ∃ b, v1.ownBlock = some b ∧ W.heap.size ≤ b) :
    SetS w W1 N0 N1 f g3 c3 vT c j v1 (acc ++ [p]) := by
  refine ⟨hb, ⟨h.n.1, h.n.2.1, Nat.le_trans h.n.2.2 hg.size⟩, blk_grown h.b3 hg (fun e => (((Kd.S_R h.out).1 g3 e.symm).2) rfl), h.ge3, Kd.R_grown h.tmp hg (fun k hk e => ?_), hS, fun k hk => ?_⟩
  · rcases h.ob k e.symm with h1 | h1
    · omega
    · omega
  · rcases hat with e | ⟨b, e, hle⟩
    · exact h.ob k (e ▸ hk)
    · rw [e] at hk
      injection hk with hk
      have := h.n.2.2
      exact .inr (by omega)
theorem SetS.give_new (h : SetS w W N0 N1 f g3 c3 vT c i vO acc) (hb : Below W.heap.size W W1) {v5 : Value} {a0 a1 a2 a3 : Int} {b4 : List S_Mark} (hr : Kd.R k_Mark 110 W1 W.heap.size (fun _ => True) v5 b4) :
    k_Maker.M W1 w.heap.size (fun k => some k = v5.ownBlock) ⟨a0, a1, a2, a3, b4⟩ [.int .i64 a0, .int .i64 a1, .int .i64 a2, .int .i64 a3, v5] ∧ (∀ k, some k = v5.ownBlock → setOk f N0 N1 vT g3 i k ∧ some k ≠ vO.ownBlock) ∧ (∀ k, W1.heap.size ≤ k → setOk f N0 N1 vT g3 i k) ∧ Kd.S k_Maker 38 W1 w.heap.size (fun k => setOk f N0 N1 vT g3 i k ∧ ¬ some k = v5.ownBlock) vO acc := by
  have hn := h.n
  have h3 := h.ge3
  have hs := hb.size
  have fresh : ∀ k, W.heap.size ≤ k → setOk f N0 N1 vT g3 i k := fun k hk => ⟨fun _ h1 => by omega, by omega⟩
  refine ⟨k_Maker_mkM _ _ _ ⟨a0, a1, a2, a3, b4⟩ (Kd.R_lower (Kd.R_tight rfl hr) (by omega)), fun k hk => ?_, fun k hk => fresh k (by omega), ?_⟩
  · have hk2 := Kd.R_base hr k hk.symm
    exact ⟨fresh k hk2, fun e => by have := Kd.S_lt h.out k e.symm; omega⟩
  · exact Kd.S_mono (Kd.S_old h.out hb) (fun k hk => ⟨hk.1, fun e => by have := Kd.R_base hr k e.symm; have := hk.2; omega⟩)
theorem SetS.elem (h : SetS w W N0 N1 f g3 c3 vT c i vO acc) (hi : i < c.length) : ∃ (gT : Nat) (cap : Nat), vT = .slice (some ⟨gT, 0, none⟩) c.length cap ∧ ∃ v4 : Value, Kd.R k_Mark 110 W w.heap.size (fun k => (N0 ≤ k ∧ k < N1) ∧ some k ≠ vT.ownBlock ∧ f k = i) v4 (rd_Maker c (i : Int)).f4 ∧
    W.cell? ⟨gT, i * 5, none⟩ = some (.int .i64 (rd_Maker c (i : Int)).f0) ∧ W.cell? ⟨gT, i * 5 + 1, none⟩ = some (.int .i64 (rd_Maker c (i : Int)).f1) ∧ W.cell? ⟨gT, i * 5 + 2, none⟩ = some (.int .i64 (rd_Maker c (i : Int)).f2) ∧ W.cell? ⟨gT, i * 5 + 3, none⟩ = some (.int .i64 (rd_Maker c (i : Int)).f3) ∧ W.cell? ⟨gT, i * 5 + 4, none⟩ = some v4 := by
  have hz : c.zipIdx.length = c.length := List.length_zipIdx
  obtain ⟨gT, cap, e, _, _, _, _⟩ := Kd.R_form h.tmp (by omega)
  subst e
  obtain ⟨ce, hcl, hM, hcc, _⟩ := Kd.R_elem h.tmp (z_Maker, i) (i : Int) (by omega) (by omega)
  have hg : (c.zipIdx.getD (i : Int).toNat (z_Maker, i)) = (rd_Maker c (i : Int), i) := by
    rw [Int.toNat_natCast, List.getD_eq_getElem?_getD, List.getElem?_zipIdx, Nat.zero_add, List.getElem?_eq_getElem hi]
    simp [rd_Maker, List.getD_eq_getElem?_getD, List.getElem?_eq_getElem hi]
  rw [hg] at hM
  obtain ⟨v4, rfl, R4⟩ := k_Maker_openM (show k_Maker.M W w.heap.size (fun k => ((N0 ≤ k ∧ k < N1) ∧ k ≠ gT) ∧ f k = i) (rd_Maker c (i : Int)) ce from hM)
  refine ⟨gT, cap, by rw [hz], v4, Kd.R_mono R4 (fun k hk => ⟨hk.1.1, fun e => hk.1.2 (by simpa [Value.ownBlock] using e), hk.2⟩), ?_⟩
  simp only [Int.toNat_natCast] at hcc
  exact ⟨hcc 0 _ rfl, hcc 1 _ rfl, hcc 2 _ rfl, hcc 3 _ rfl, hcc 4 _ rfl⟩
theorem SetS.give_elem (h : SetS w W N0 N1 f g3 c3 vT c i vO acc) {v4 : Value} {a0 a1 a2 a3 : Int} {m : List S_Mark} (hr : Kd.R k_Mark 110 W w.heap.size (fun k => (N0 ≤ k ∧ k < N1) ∧ some k ≠ vT.ownBlock ∧ f k = i) v4 m) :
    k_Maker.M W w.heap.size (fun k => (N0 ≤ k ∧ k < N1) ∧ some k ≠ vT.ownBlock ∧ f k = i) ⟨a0, a1, a2, a3, m⟩ [.int .i64 a0, .int .i64 a1, .int .i64 a2, .int .i64 a3, v4] ∧ (∀ k, ((N0 ≤ k ∧ k < N1) ∧ some k ≠ vT.ownBlock ∧ f k = i) → setOk f N0 N1 vT g3 (i + 1) k ∧ some k ≠ vO.ownBlock) ∧ (∀ k, W.heap.size ≤ k → setOk f N0 N1 vT g3 (i + 1) k) ∧ Kd.S k_Maker 38 W w.heap.size (fun k => setOk f N0 N1 vT g3 (i + 1) k ∧ ¬ ((N0 ≤ k ∧ k < N1) ∧ some k ≠ vT.ownBlock ∧ f k = i)) vO acc := by
  have hn := h.n
  have h3 := h.ge3
  refine ⟨k_Maker_mkM _ _ _ ⟨a0, a1, a2, a3, m⟩ hr, fun k hk => ⟨⟨fun _ _ => ⟨hk.2.1, by have := hk.2.2; omega⟩, by omega⟩, fun e => ?_⟩, fun k hk => ⟨fun _ h1 => by omega, by omega⟩, Kd.S_mono h.out (fun k hk => ⟨⟨fun h0 h1 => ⟨(hk.1 h0 h1).1, by have := (hk.1 h0 h1).2; omega⟩, hk.2⟩, fun q => by have := (hk.1 q.1.1 q.1.2).2; omega⟩)⟩
  rcases h.ob k e.symm with h1 | h1
  · omega
  · omega
end
set_option maxHeartbeats 32000000 in
set_option maxRecDepth 100000 in
theorem impl_MakerSet.calls (k : Nat) (A0 : Option Addr) (c0 : Nat) (l0 : List (S_Maker)) (a1_0 : Int) (a1_1 : Int) (a1_2 : Int) (a1_3 : Int) (A1_4 : Option Addr) (c1_4 : Nat) (l1_4 : List (S_Mark)) (r : List (S_Maker)) (w : World) (hr0 : Kd.C k_Maker w A0 l0.length l0) (hc0 : l0.length ≤ c0) (hr1_4 : Kd.C k_Mark w A1_4 l1_4.length l1_4) (hc1_4 : l1_4.length ≤ c1_4) (h : impl_MakerSet.f k l0 a1_0 a1_1 a1_2 a1_3 l1_4 = some r) :
    Calls Try.prog 27 #[.slice A0 l0.length c0, .agg #[.int .i64 a1_0, .int .i64 a1_1, .int .i64 a1_2, .int .i64 a1_3, .slice A1_4 l1_4.length c1_4]] w fun e w' => ∃ v0_ : Value, e = .returned (v0_) ∧ Kd.S k_Maker 38 w' w.heap.size (fun _ => True) v0_ r ∧ Below w.heap.size w w' := by
  have hu38 := Try.underlying38
  have HR0 := Aside0.mk hr0
  have HC0 := Aside0.mk hc0
  have HR1 := Aside0.mk hr1_4
  have HC1 := Aside0.mk hc1_4
  clear hr0 hc0 hr1_4 hc1_4
  unfold impl_MakerSet.f at h
  obtain ⟨c, QL, h1⟩ := Option.bind_eq_some_iff.mp h
  clear h
  obtain ⟨⟨b0, b1, b2, b3, b4⟩, QM, h⟩ := Option.bind_eq_some_iff.mp h1
  clear h1
  have QL := Aside0.mk QL
  obtain ⟨rfl, rfl, rfl, rfl⟩ : b0 = a1_0 ∧ b1 = a1_1 ∧ b2 = a1_2 ∧ b3 = a1_3 := by
    have q_ := QM
    unfold impl_copyMaker.f at q_
    split at q_
    · simp only [Option.some.injEq, Prod.mk.injEq] at q_
      exact ⟨q_.1.symm, q_.2.1.symm, q_.2.2.1.symm, q_.2.2.2.1.symm⟩
    · cases q_
  have QM := Aside0.mk QM
  change (if c.length < 1000000000000 then some (setL ⟨b0, b1, b2, b3, b4⟩ c false) else none) = some r at h
  by_cases hc : c.length < 1000000000000
  · rw [if_pos hc] at h
    have HCL := Aside0.mk hc
    have HE : Aside0 (setL ⟨b0, b1, b2, b3, b4⟩ c false = r) := ⟨Option.some.inj h⟩
    clear h hc
    go_enter Try.func27, Try.ntmps27
    go_wp2_with (first | ((with_reducible refine gate_dst (N := 3) rfl ?_); refine box_event ?hg (N := 3) ?hd (cs := #[.int .i64 b0, .int .i64 b1, .int .i64 b2, .int .i64 b3, .slice A1_4 l1_4.length c1_4]) (t := 38) ?hr ?_; (case hd => rfl); (case hg => rfl); (case hr => first | (go_simp; done) | (go_simp; rfl)); intro g3 hg w3 hbox hb; have K3 := Aside0.mk hbox; have E3 := Aside0.mk (Nat.le_of_eq hg.symm); have B3 := Aside0.mk hb; clear hb hbox hg) | ((with_reducible refine gate_dst (N := 10) rfl ?_); refine Kd.S_lit k_Maker _ 38 ?hg (N := 10) ?hd (xs := ([] : List (S_Maker))) (inner := []) (ok := fun _ => True) (okp := fun _ => True) ?hr ?hp (fun _ hk => hk) trivial (Below.refl _ _) (Nat.le_refl _) (by simp) ?_; (case hd => rfl); (case hg => rfl); (case hr => first | (go_simp; done) | (go_simp; rfl)); (case hp => exact (Reps.none _ _)); intro vO w4 ho hb hg_ hnew_; clear hg_ hnew_; have S4 := Aside0.mk (Kd.S_lower (Kd.S_newB ho K3.out) B3.out.size); have K4 := Aside0.mk (blk_below K3.out hb); have B4 := Aside0.mk (below_step B3.out hb); clear hb ho K3 B3) | ((with_reducible refine gate_callee (f := 67) rfl ?_); refine goesL_ (some 12) rfl rfl Try.func67 (by kernel_rfl) rfl #[.slice A0 l0.length c0] rfl (qf0_) ?_; (with_reducible refine (impl_copyMakers.calls k A0 c0 l0 c _ (Kd.C_below HR0.out B4.out) HC0.out QL.out).mono ?_); rintro e w12 ⟨vT, rfl, hs, hb⟩; refine ⟨_, rfl, ?_⟩; obtain ⟨f, hf⟩ := (Kd.S_lower (Kd.S_mono (Kd.S_bound hs) (fun k_ hk_ => (show w4.heap.size ≤ k_ ∧ k_ < w12.heap.size from ⟨hk_.2.1, hk_.2.2.1⟩))) B4.out.size); have ST : Aside0 (SetS w w12 w4.heap.size w12.heap.size f g3 #[.int .i64 b0, .int .i64 b1, .int .i64 b2, .int .i64 b3, .slice A1_4 l1_4.length c1_4] vT c 0 vO []) := ⟨⟨below_step B4.out hb, ⟨B4.out.size, hb.size, Nat.le_refl _⟩, blk_below K4.out hb, ⟨E3.out, blk_lt K4.out⟩, hf, Kd.S_mono (Kd.S_old S4.out hb) (fun k_ hk_ => ⟨fun h0_ h1_ => by have := hk_.2; omega, hk_.1.2⟩), fun k_ hk_ => .inl (Kd.S_lt S4.out k_ hk_)⟩⟩; obtain ⟨AT, cT, rfl⟩ := Kd.S_slice hs; clear hs hb hf S4 K4 B4 E3))
    generalize w4.heap.size = N0 at *
    generalize w12.heap.size = N1 at *
    go_loopg [5, 6, 8, 9, 14] c.length (fun gg v5 v6 _ _ v14 wr => ∃ (i : Nat) (p : Bool) (acc : List S_Maker), v6 = .bool p ∧ v14 = .int .i64 i ∧ i ≤ c.length ∧ c.length - i ≤ gg ∧ Aside0 (SetS w wr N0 N1 f g3 #[.int .i64 b0, .int .i64 b1, .int .i64 b2, .int .i64 b3, .slice A1_4 l1_4.length c1_4] (.slice AT c.length cT) c i v5 acc) ∧ Aside0 (acc.length ≤ 2 * i) ∧ Aside0 (acc ++ setL ⟨b0, b1, b2, b3, b4⟩ (c.drop i) p = r))
    case atStart => exact ⟨0, false, [], rfl, rfl, Nat.zero_le _, by omega, ST, ⟨by simp⟩, ⟨by rw [List.drop_zero]; exact HE.out⟩⟩
    case round =>
      obtain ⟨i, p, acc, rfl, rfl, hic, hgg, S, HN, HA⟩ := hrel
      clear ST HE
      have hcl := HCL.out
      by_cases hlt : i < c.length
      · have hltz : (i : Int) < (c.length : Int) := by omega
        obtain ⟨gT, cap, eT, v4, R4, h0, h1, h2, h3, h4⟩ := S.out.elem hlt
        injection eT with eT1 eT2 eT3
        subst eT1
        subst eT3
        clear eT2
        have hd : c.drop i = rd_Maker c (i : Int) :: c.drop (i + 1) := by
          rw [List.drop_eq_getElem_cons hlt]
          simp [rd_Maker, List.getD_eq_getElem?_getD, List.getElem?_eq_getElem hlt]
        have HA2 := HA.out
        rw [hd, setL] at HA2
        have HA2 := Aside0.mk HA2
        generalize hx : rd_Maker c (i : Int) = x at *
        clear HA hd hx
        obtain ⟨A4, n4, rfl⟩ := Kd.R_slice R4
        have RR := Aside0.mk R4
        clear R4
        go_upto_region 6 with (fail)
        have K9 : Aside0 ((wr.alloc (.cells #[.int .i64 x.f0, .int .i64 x.f1, .int .i64 x.f2, .int .i64 x.f3, .slice A4 x.f4.length n4] 38 (0, 0))).heap[wr.heap.size]? = some (.cells #[.int .i64 x.f0, .int .i64 x.f1, .int .i64 x.f2, .int .i64 x.f3, .slice A4 x.f4.length n4] 38 (0, 0))) := ⟨blk_new _ _⟩
        have B9 : Below wr.heap.size wr (wr.alloc (.cells #[.int .i64 x.f0, .int .i64 x.f1, .int .i64 x.f2, .int .i64 x.f3, .slice A4 x.f4.length n4] 38 (0, 0))) := below_alloc (Below.refl _ _) _
        have S9 := Aside0.mk (S.out.step B9)
        have RR9 := Aside0.mk (Kd.R_below RR.out B9)
        have N8 : Aside0 (g3 ≠ wr.heap.size) := ⟨Nat.ne_of_lt (blk_lt S.out.b3)⟩
        have O8 : Aside0 (some wr.heap.size ≠ u5.ownBlock) := ⟨fun e_ => by have := Kd.S_lt S.out.out _ e_.symm; omega⟩
        have NN8 : Aside0 (N1 ≤ wr.heap.size) := ⟨S.out.n.2.2⟩
        clear S RR B9 h0 h1 h2 h3 h4
        generalize wr.alloc (.cells #[.int .i64 x.f0, .int .i64 x.f1, .int .i64 x.f2, .int .i64 x.f3, .slice A4 x.f4.length n4] 38 (0, 0)) = w9 at *
        generalize wr.heap.size = g8 at *
        (try simp only [Act.put, List.setIfInBounds_toArray, List.set_cons_zero, List.set_cons_succ])
        go_cut [9] (fun v9 wc => v9 = .bool (setE ⟨b0, b1, b2, b3, b4⟩ x) ∧ wc = w9)
        case first =>
          have hx8_0 : w9.cell? ⟨g8, 0, none⟩ = some (.int .i64 x.f0) := (blk_cell K9.out 0).trans rfl
          have hx8_1 : w9.cell? ⟨g8, 1, none⟩ = some (.int .i64 x.f1) := (blk_cell K9.out 1).trans rfl
          have hm_0 : w9.cell? ⟨g3, 0, none⟩ = some (.int .i64 b0) := (blk_cell S9.out.b3 0).trans rfl
          have hm_1 : w9.cell? ⟨g3, 1, none⟩ = some (.int .i64 b1) := (blk_cell S9.out.b3 1).trans rfl
          by_cases e0 : x.f0 = b0
          · have E0 : (x.f0 == b0) = true := by simpa using e0
            clear e0
            by_cases e1 : x.f1 = b1
            · have E1 : (x.f1 == b1) = true := by simpa using e1
              clear e1
              go_wp2
              go_meet
              case rel => exact ⟨by simp [setE, *], rfl⟩
            · have E1 : (x.f1 == b1) = false := by simpa using e1
              clear e1
              go_wp2
              go_meet
              case rel => exact ⟨by simp [setE, *], rfl⟩
          · have E0 : (x.f0 == b0) = false := by simpa using e0
            clear e0
            go_wp2
            go_meet
            case rel => exact ⟨by simp [setE, *], rfl⟩
        case rest =>
         obtain ⟨rfl, rfl⟩ := hcut
         go_upto_region 7 with (fail)
         (try simp only [Act.put, List.setIfInBounds_toArray, List.set_cons_zero, List.set_cons_succ])
         go_cut [9, 55] (fun v9 v55 wd => v9 = .bool (setE ⟨b0, b1, b2, b3, b4⟩ x) ∧ v55 = .bool (setC ⟨b0, b1, b2, b3, b4⟩ x p) ∧ wd = wc)
         case first =>
          have hx8_0 : wc.cell? ⟨g8, 0, none⟩ = some (.int .i64 x.f0) := (blk_cell K9.out 0).trans rfl
          have hx8_1 : wc.cell? ⟨g8, 1, none⟩ = some (.int .i64 x.f1) := (blk_cell K9.out 1).trans rfl
          have hm_0 : wc.cell? ⟨g3, 0, none⟩ = some (.int .i64 b0) := (blk_cell S9.out.b3 0).trans rfl
          have hm_1 : wc.cell? ⟨g3, 1, none⟩ = some (.int .i64 b1) := (blk_cell S9.out.b3 1).trans rfl
          cases p with
          | true =>
            go_wp2
            go_meet
            case rel => exact ⟨by first | rfl | simp [*], by simp [setC, setE, *], rfl⟩
          | false =>
            by_cases e0 : x.f0 = b0
            · have E0 : (x.f0 == b0) = true := by simpa using e0
              have G0 : decide (x.f0 > b0) = false := decide_eq_false (by omega)
              clear e0
              by_cases e1 : x.f1 = b1
              · have E1 : (x.f1 == b1) = true := by simpa using e1
                have ES : setE ⟨b0, b1, b2, b3, b4⟩ x = true := by simp [setE, *]
                clear e1
                go_wp2
                go_meet
                case rel => exact ⟨by first | rfl | simp [*], by simp [setC, setE, *], rfl⟩
              · have E1 : (x.f1 == b1) = false := by simpa using e1
                have ES : setE ⟨b0, b1, b2, b3, b4⟩ x = false := by simp [setE, *]
                clear e1
                by_cases q1 : x.f1 > b1
                · have G1 : decide (x.f1 > b1) = true := decide_eq_true q1
                  clear q1
                  go_wp2
                  go_meet
                  case rel => exact ⟨by first | rfl | simp [*], by simp [setC, setE, *], rfl⟩
                · have G1 : decide (x.f1 > b1) = false := decide_eq_false q1
                  clear q1
                  go_wp2
                  go_meet
                  case rel => exact ⟨by first | rfl | simp [*], by simp [setC, setE, *], rfl⟩
            · have E0 : (x.f0 == b0) = false := by simpa using e0
              have ES : setE ⟨b0, b1, b2, b3, b4⟩ x = false := by simp [setE, *]
              clear e0
              by_cases q0 : x.f0 > b0
              · have G0 : decide (x.f0 > b0) = true := decide_eq_true q0
                clear q0
                go_wp2
                go_meet
                case rel => exact ⟨by first | rfl | simp [*], by simp [setC, setE, *], rfl⟩
              · have G0 : decide (x.f0 > b0) = false := decide_eq_false q0
                clear q0
                go_wp2
                go_meet
                case rel => exact ⟨by first | rfl | simp [*], by simp [setC, setE, *], rfl⟩
         case rest =>
          obtain ⟨rfl, rfl, rfl⟩ := hcut
          cases hC : setC ⟨b0, b1, b2, b3, b4⟩ x p with
          | true =>
            cases hE : setE ⟨b0, b1, b2, b3, b4⟩ x with
            | true =>
              have hm_0 : wc.cell? ⟨g3, 0, none⟩ = some (.int .i64 b0) := (blk_cell S9.out.b3 0).trans rfl
              have hm_1 : wc.cell? ⟨g3, 1, none⟩ = some (.int .i64 b1) := (blk_cell S9.out.b3 1).trans rfl
              have hm_2 : wc.cell? ⟨g3, 2, none⟩ = some (.int .i64 b2) := (blk_cell S9.out.b3 2).trans rfl
              have hm_3 : wc.cell? ⟨g3, 3, none⟩ = some (.int .i64 b3) := (blk_cell S9.out.b3 3).trans rfl
              have hm_4 : wc.cell? ⟨g3, 4, none⟩ = some (.slice A1_4 l1_4.length c1_4) := (blk_cell S9.out.b3 4).trans rfl
              go_wp2_with (first | ((with_reducible refine gate_callee (f := 61) rfl ?_); refine goesL_ (some 58) rfl rfl Try.func61 (by kernel_rfl) rfl #[.agg #[.int .i64 b0, .int .i64 b1, .int .i64 b2, .int .i64 b3, .slice A1_4 l1_4.length c1_4]] rfl (qf0_) ?_; (with_reducible refine (impl_copyMaker.calls b0 b1 b2 b3 A1_4 c1_4 l1_4 b0 b1 b2 b3 b4 _ (Kd.C_below HR1.out S9.out.below) HC1.out QM.out).mono ?_); rintro e wm9 ⟨v5, rfl, hr, hb⟩; refine ⟨_, rfl, ?_⟩; have SN9 := Aside0.mk (S9.out.step hb); have GN9 := Aside0.mk (S9.out.give_new (a0 := b0) (a1 := b1) (a2 := b2) (a3 := b3) hb hr); have K9m := Aside0.mk (blk_below K9.out hb); have RR9m := Aside0.mk (Kd.R_below RR9.out hb); obtain ⟨A5, c5, rfl⟩ := Kd.R_slice hr; clear hr hb hm_0 hm_1 hm_2 hm_3 hm_4) | ((with_reducible refine gate_builtin (b := .append) (xs := #[.tmp 56, .tmp 59]) rfl ?_); at_builtin; refine Kd.S_append k_Maker (w0 := w) w.heap.size rfl (.tmp 56) (.tmp 59) 40 38 (.agg #[(.int .i64 0), (.int .i64 0), (.int .i64 0), (.int .i64 0), (.slice none 0 0)]) 56 rfl Try.underlying40 info38 rfl (by decide) (by omega) u5 acc (⟨b0, b1, b2, b3, b4⟩ : S_Maker) [.int .i64 b0, .int .i64 b1, .int .i64 b2, .int .i64 b3, .slice A5 b4.length c5] (setOk f N0 N1 (.slice (some ⟨gT, 0, none⟩) c.length cT) g3 i) (fun k_ => some k_ = (Value.slice A5 b4.length c5).ownBlock) rfl rfl GN9.out.1 GN9.out.2.1 GN9.out.2.2.1 GN9.out.2.2.2 SN9.out.below SN9.out.below.size (by have := HN.out; have := HCL.out; omega) ?_; intro v1 w1 hS hb hg hat; have SA := Aside0.mk (SN9.out.app hS hb hg hat); have O8n : Aside0 (some g8 ≠ v1.ownBlock) := ⟨fun e_ => by rcases hat with q_ | ⟨b_, q_, hle_⟩; (exact O8.out (e_.trans q_)); (rw [q_] at e_; injection e_ with e_; have := blk_lt K9m.out; omega)⟩; have K9n := Aside0.mk (blk_grown K9m.out hg O8.out); have RR9n := Aside0.mk (Kd.R_grown RR9m.out hg (fun k_ hk_ e_ => by have := hk_.1; rcases SN9.out.ob k_ e_.symm with h_ | h_ <;> omega)); have hx_0 : w1.cell? ⟨g8, 0, none⟩ = some (.int .i64 x.f0) := (blk_cell K9n.out 0).trans rfl; have hx_1 : w1.cell? ⟨g8, 1, none⟩ = some (.int .i64 x.f1) := (blk_cell K9n.out 1).trans rfl; have hx_2 : w1.cell? ⟨g8, 2, none⟩ = some (.int .i64 x.f2) := (blk_cell K9n.out 2).trans rfl; have hx_3 : w1.cell? ⟨g8, 3, none⟩ = some (.int .i64 x.f3) := (blk_cell K9n.out 3).trans rfl; have hx_4 : w1.cell? ⟨g8, 4, none⟩ = some (.slice A4 x.f4.length n4) := (blk_cell K9n.out 4).trans rfl; clear hS hb hg hat SN9 GN9))
              go_roundg (c.length - (i + 1))
              case measure => omega
              case rel => exact ⟨i + 1, true, acc ++ [⟨b0, b1, b2, b3, b4⟩], by first | rfl | simp, by go_num, by omega, Nat.le_refl _, ⟨SA.out.next⟩, ⟨qf1_⟩, ⟨qf2_⟩⟩
            | false =>
              have hm_0 : wc.cell? ⟨g3, 0, none⟩ = some (.int .i64 b0) := (blk_cell S9.out.b3 0).trans rfl
              have hm_1 : wc.cell? ⟨g3, 1, none⟩ = some (.int .i64 b1) := (blk_cell S9.out.b3 1).trans rfl
              have hm_2 : wc.cell? ⟨g3, 2, none⟩ = some (.int .i64 b2) := (blk_cell S9.out.b3 2).trans rfl
              have hm_3 : wc.cell? ⟨g3, 3, none⟩ = some (.int .i64 b3) := (blk_cell S9.out.b3 3).trans rfl
              have hm_4 : wc.cell? ⟨g3, 4, none⟩ = some (.slice A1_4 l1_4.length c1_4) := (blk_cell S9.out.b3 4).trans rfl
              go_wp2_with (first | ((with_reducible refine gate_callee (f := 61) rfl ?_); refine goesL_ (some 58) rfl rfl Try.func61 (by kernel_rfl) rfl #[.agg #[.int .i64 b0, .int .i64 b1, .int .i64 b2, .int .i64 b3, .slice A1_4 l1_4.length c1_4]] rfl (qf0_) ?_; (with_reducible refine (impl_copyMaker.calls b0 b1 b2 b3 A1_4 c1_4 l1_4 b0 b1 b2 b3 b4 _ (Kd.C_below HR1.out S9.out.below) HC1.out QM.out).mono ?_); rintro e wm9 ⟨v5, rfl, hr, hb⟩; refine ⟨_, rfl, ?_⟩; have SN9 := Aside0.mk (S9.out.step hb); have GN9 := Aside0.mk (S9.out.give_new (a0 := b0) (a1 := b1) (a2 := b2) (a3 := b3) hb hr); have K9m := Aside0.mk (blk_below K9.out hb); have RR9m := Aside0.mk (Kd.R_below RR9.out hb); obtain ⟨A5, c5, rfl⟩ := Kd.R_slice hr; clear hr hb hm_0 hm_1 hm_2 hm_3 hm_4) | ((with_reducible refine gate_builtin (b := .append) (xs := #[.tmp 56, .tmp 59]) rfl ?_); at_builtin; refine Kd.S_append k_Maker (w0 := w) w.heap.size rfl (.tmp 56) (.tmp 59) 40 38 (.agg #[(.int .i64 0), (.int .i64 0), (.int .i64 0), (.int .i64 0), (.slice none 0 0)]) 56 rfl Try.underlying40 info38 rfl (by decide) (by omega) u5 acc (⟨b0, b1, b2, b3, b4⟩ : S_Maker) [.int .i64 b0, .int .i64 b1, .int .i64 b2, .int .i64 b3, .slice A5 b4.length c5] (setOk f N0 N1 (.slice (some ⟨gT, 0, none⟩) c.length cT) g3 i) (fun k_ => some k_ = (Value.slice A5 b4.length c5).ownBlock) rfl rfl GN9.out.1 GN9.out.2.1 GN9.out.2.2.1 GN9.out.2.2.2 SN9.out.below SN9.out.below.size (by have := HN.out; have := HCL.out; omega) ?_; intro v1 w1 hS hb hg hat; have SA := Aside0.mk (SN9.out.app hS hb hg hat); have O8n : Aside0 (some g8 ≠ v1.ownBlock) := ⟨fun e_ => by rcases hat with q_ | ⟨b_, q_, hle_⟩; (exact O8.out (e_.trans q_)); (rw [q_] at e_; injection e_ with e_; have := blk_lt K9m.out; omega)⟩; have K9n := Aside0.mk (blk_grown K9m.out hg O8.out); have RR9n := Aside0.mk (Kd.R_grown RR9m.out hg (fun k_ hk_ e_ => by have := hk_.1; rcases SN9.out.ob k_ e_.symm with h_ | h_ <;> omega)); have hx_0 : w1.cell? ⟨g8, 0, none⟩ = some (.int .i64 x.f0) := (blk_cell K9n.out 0).trans rfl; have hx_1 : w1.cell? ⟨g8, 1, none⟩ = some (.int .i64 x.f1) := (blk_cell K9n.out 1).trans rfl; have hx_2 : w1.cell? ⟨g8, 2, none⟩ = some (.int .i64 x.f2) := (blk_cell K9n.out 2).trans rfl; have hx_3 : w1.cell? ⟨g8, 3, none⟩ = some (.int .i64 x.f3) := (blk_cell K9n.out 3).trans rfl; have hx_4 : w1.cell? ⟨g8, 4, none⟩ = some (.slice A4 x.f4.length n4) := (blk_cell K9n.out 4).trans rfl; clear hS hb hg hat SN9 GN9) | ((with_reducible refine gate_builtin (b := .append) (xs := #[.tmp 63, .tmp 65]) rfl ?_); at_builtin; have GE := SA.out.give_elem (a0 := x.f0) (a1 := x.f1) (a2 := x.f2) (a3 := x.f3) RR9n.out; refine Kd.S_append k_Maker (w0 := w) w.heap.size rfl (.tmp 63) (.tmp 65) 40 38 (.agg #[(.int .i64 0), (.int .i64 0), (.int .i64 0), (.int .i64 0), (.slice none 0 0)]) 56 rfl Try.underlying40 info38 rfl (by decide) (by omega) v1 (acc ++ [⟨b0, b1, b2, b3, b4⟩]) (⟨x.f0, x.f1, x.f2, x.f3, x.f4⟩ : S_Maker) [.int .i64 x.f0, .int .i64 x.f1, .int .i64 x.f2, .int .i64 x.f3, .slice A4 x.f4.length n4] (setOk f N0 N1 (.slice (some ⟨gT, 0, none⟩) c.length cT) g3 (i + 1)) (fun k_ => (N0 ≤ k_ ∧ k_ < N1) ∧ some k_ ≠ (Value.slice (some ⟨gT, 0, none⟩) c.length cT).ownBlock ∧ f k_ = i) rfl rfl GE.1 GE.2.1 GE.2.2.1 GE.2.2.2 SA.out.below SA.out.below.size (by (try simp only [List.length_append, List.length_singleton]); have := HN.out; have := HCL.out; omega) ?_; intro v2 w2 hS hb hg hat; have SE := Aside0.mk (SA.out.app hS hb hg hat); clear hS hb hg hat GE))
              go_roundg (c.length - (i + 1))
              case measure => omega
              case rel => exact ⟨i + 1, true, (acc ++ [⟨b0, b1, b2, b3, b4⟩]) ++ [(⟨x.f0, x.f1, x.f2, x.f3, x.f4⟩ : S_Maker)], by first | rfl | simp, by go_num, by omega, Nat.le_refl _, SE, ⟨qf1_⟩, ⟨qf2_⟩⟩
          | false =>
            cases hE : setE ⟨b0, b1, b2, b3, b4⟩ x with
            | true =>
              go_wp2
              go_roundg (c.length - (i + 1))
              case measure => omega
              case rel => exact ⟨i + 1, p, acc, by first | rfl | simp, by go_num, by omega, Nat.le_refl _, ⟨S9.out.next⟩, ⟨qf1_⟩, ⟨qf2_⟩⟩
            | false =>
              have hx_0 : wc.cell? ⟨g8, 0, none⟩ = some (.int .i64 x.f0) := (blk_cell K9.out 0).trans rfl
              have hx_1 : wc.cell? ⟨g8, 1, none⟩ = some (.int .i64 x.f1) := (blk_cell K9.out 1).trans rfl
              have hx_2 : wc.cell? ⟨g8, 2, none⟩ = some (.int .i64 x.f2) := (blk_cell K9.out 2).trans rfl
              have hx_3 : wc.cell? ⟨g8, 3, none⟩ = some (.int .i64 x.f3) := (blk_cell K9.out 3).trans rfl
              have hx_4 : wc.cell? ⟨g8, 4, none⟩ = some (.slice A4 x.f4.length n4) := (blk_cell K9.out 4).trans rfl
              go_wp2_with (first | ((with_reducible refine gate_builtin (b := .append) (xs := #[.tmp 63, .tmp 65]) rfl ?_); at_builtin; have GE := S9.out.give_elem (a0 := x.f0) (a1 := x.f1) (a2 := x.f2) (a3 := x.f3) RR9.out; refine Kd.S_append k_Maker (w0 := w) w.heap.size rfl (.tmp 63) (.tmp 65) 40 38 (.agg #[(.int .i64 0), (.int .i64 0), (.int .i64 0), (.int .i64 0), (.slice none 0 0)]) 56 rfl Try.underlying40 info38 rfl (by decide) (by omega) u5 (acc) (⟨x.f0, x.f1, x.f2, x.f3, x.f4⟩ : S_Maker) [.int .i64 x.f0, .int .i64 x.f1, .int .i64 x.f2, .int .i64 x.f3, .slice A4 x.f4.length n4] (setOk f N0 N1 (.slice (some ⟨gT, 0, none⟩) c.length cT) g3 (i + 1)) (fun k_ => (N0 ≤ k_ ∧ k_ < N1) ∧ some k_ ≠ (Value.slice (some ⟨gT, 0, none⟩) c.length cT).ownBlock ∧ f k_ = i) rfl rfl GE.1 GE.2.1 GE.2.2.1 GE.2.2.2 S9.out.below S9.out.below.size (by (try simp only [List.length_append, List.length_singleton]); have := HN.out; have := HCL.out; omega) ?_; intro v2 w2 hS hb hg hat; have SE := Aside0.mk (S9.out.app hS hb hg hat); clear hS hb hg hat GE))
              go_roundg (c.length - (i + 1))
              case measure => omega
              case rel => exact ⟨i + 1, p, (acc) ++ [(⟨x.f0, x.f1, x.f2, x.f3, x.f4⟩ : S_Maker)], by first | rfl | simp, by go_num, by omega, Nat.le_refl _, SE, ⟨qf1_⟩, ⟨qf2_⟩⟩
      · obtain rfl : i = c.length := by omega
        have hltz : ¬ (c.length : Int) < (c.length : Int) := by omega
        have HA2 := HA.out
        rw [List.drop_length, setL] at HA2
        have HA2 := Aside0.mk HA2
        clear HA
        cases p with
        | true =>
          go_wp2
          go_ret
          exact ⟨_, rfl, by have h_ := HA2.out; simp at h_; rw [← h_]; exact Kd.S_mono S.out.out (fun _ _ => trivial), S.out.below⟩
        | false =>
          have hm_0 : wr.cell? ⟨g3, 0, none⟩ = some (.int .i64 b0) := (blk_cell S.out.b3 0).trans rfl
          have hm_1 : wr.cell? ⟨g3, 1, none⟩ = some (.int .i64 b1) := (blk_cell S.out.b3 1).trans rfl
          have hm_2 : wr.cell? ⟨g3, 2, none⟩ = some (.int .i64 b2) := (blk_cell S.out.b3 2).trans rfl
          have hm_3 : wr.cell? ⟨g3, 3, none⟩ = some (.int .i64 b3) := (blk_cell S.out.b3 3).trans rfl
          have hm_4 : wr.cell? ⟨g3, 4, none⟩ = some (.slice A1_4 l1_4.length c1_4) := (blk_cell S.out.b3 4).trans rfl
          have S9 := S
          go_wp2_with (first | ((with_reducible refine gate_callee (f := 61) rfl ?_); refine goesL_ (some 72) rfl rfl Try.func61 (by kernel_rfl) rfl #[.agg #[.int .i64 b0, .int .i64 b1, .int .i64 b2, .int .i64 b3, .slice A1_4 l1_4.length c1_4]] rfl (qf0_) ?_; (with_reducible refine (impl_copyMaker.calls b0 b1 b2 b3 A1_4 c1_4 l1_4 b0 b1 b2 b3 b4 _ (Kd.C_below HR1.out S9.out.below) HC1.out QM.out).mono ?_); rintro e wm9 ⟨v5, rfl, hr, hb⟩; refine ⟨_, rfl, ?_⟩; have SN9 := Aside0.mk (S9.out.step hb); have GN9 := Aside0.mk (S9.out.give_new (a0 := b0) (a1 := b1) (a2 := b2) (a3 := b3) hb hr); obtain ⟨A5, c5, rfl⟩ := Kd.R_slice hr; clear hr hb hm_0 hm_1 hm_2 hm_3 hm_4) | ((with_reducible refine gate_builtin (b := .append) (xs := #[.tmp 70, .tmp 73]) rfl ?_); at_builtin; refine Kd.S_append k_Maker (w0 := w) w.heap.size rfl (.tmp 70) (.tmp 73) 40 38 (.agg #[(.int .i64 0), (.int .i64 0), (.int .i64 0), (.int .i64 0), (.slice none 0 0)]) 56 rfl Try.underlying40 info38 rfl (by decide) (by omega) u5 acc (⟨b0, b1, b2, b3, b4⟩ : S_Maker) [.int .i64 b0, .int .i64 b1, .int .i64 b2, .int .i64 b3, .slice A5 b4.length c5] (setOk f N0 N1 (.slice AT c.length cT) g3 c.length) (fun k_ => some k_ = (Value.slice A5 b4.length c5).ownBlock) rfl rfl GN9.out.1 GN9.out.2.1 GN9.out.2.2.1 GN9.out.2.2.2 SN9.out.below SN9.out.below.size (by have := HN.out; have := HCL.out; omega) ?_; intro v1 w1 hS hb hg hat; have SA := Aside0.mk (SN9.out.app hS hb hg hat); clear hS hb hg hat SN9 GN9))
          go_ret
          exact ⟨_, rfl, by have h_ := HA2.out; simp at h_; rw [← h_]; exact Kd.S_mono SA.out.out (fun _ _ => trivial), SA.out.below⟩
  · rw [if_neg hc] at h
    cases h
/-! ### laws_FnMakers: function 7 -/
abbrev laws_FnMakers.m0 : Array Bool := #[f_,f_,f_,f_,f_,f_,f_,f_,f_,f_,f_,f_,f_,f_,f_,f_,f_,f_,f_,f_,f_,f_,f_,f_,f_,f_,f_,f_,f_,f_,f_,f_,f_,f_,f_,f_,f_,f_,f_]
abbrev laws_FnMakers.m1 : Array Bool := #[f_,f_,t_,f_,f_,f_,f_,f_,f_,f_,f_,f_,f_,f_,f_,f_,f_,f_,f_,f_,f_,f_,f_,f_,f_,f_,f_,f_,f_,f_,f_,f_,f_,f_,f_,f_,f_,f_,f_]
abbrev laws_FnMakers.m2 : Array Bool := #[f_,f_,t_,t_,f_,f_,f_,f_,f_,f_,f_,f_,f_,f_,f_,f_,f_,f_,f_,f_,f_,f_,f_,f_,f_,f_,f_,f_,f_,f_,f_,f_,f_,f_,f_,f_,f_,f_,f_]
abbrev laws_FnMakers.m3 : Array Bool := #[f_,f_,t_,t_,t_,f_,f_,f_,f_,f_,f_,f_,f_,f_,f_,f_,f_,f_,f_,f_,f_,f_,f_,f_,f_,f_,f_,f_,f_,f_,f_,f_,f_,f_,f_,f_,f_,f_,f_]
abbrev laws_FnMakers.m4 : Array Bool := #[f_,f_,t_,t_,t_,t_,f_,f_,f_,f_,f_,f_,f_,f_,f_,f_,f_,f_,f_,f_,f_,f_,f_,f_,f_,f_,f_,f_,f_,f_,f_,f_,f_,f_,f_,f_,f_,f_,f_]
abbrev laws_FnMakers.m5 : Array Bool := #[t_,f_,t_,t_,t_,t_,f_,f_,f_,f_,f_,f_,f_,f_,f_,f_,f_,f_,f_,f_,f_,f_,f_,f_,f_,f_,f_,f_,f_,f_,f_,f_,f_,f_,f_,f_,f_,f_,f_]
abbrev laws_FnMakers.m6 : Array Bool := #[t_,t_,t_,t_,t_,t_,f_,f_,f_,f_,f_,f_,f_,f_,f_,f_,f_,f_,f_,f_,f_,f_,f_,f_,f_,f_,f_,f_,f_,f_,f_,f_,f_,f_,f_,f_,f_,f_,f_]
abbrev laws_FnMakers.m7 : Array Bool := #[t_,t_,t_,t_,t_,t_,t_,f_,f_,f_,f_,f_,f_,f_,f_,f_,f_,f_,f_,f_,f_,f_,f_,f_,f_,f_,f_,f_,f_,f_,f_,f_,f_,f_,f_,f_,f_,f_,f_]
abbrev laws_FnMakers.m8 : Array Bool := #[t_,t_,t_,t_,t_,t_,t_,t_,f_,f_,f_,f_,f_,f_,f_,f_,f_,f_,f_,f_,f_,f_,f_,f_,f_,f_,f_,f_,f_,f_,f_,f_,f_,f_,f_,f_,f_,f_,f_]
abbrev laws_FnMakers.m9 : Array Bool := #[t_,t_,t_,t_,t_,t_,t_,t_,t_,f_,f_,f_,f_,f_,f_,f_,f_,f_,f_,f_,f_,f_,f_,f_,f_,f_,f_,f_,f_,f_,f_,f_,f_,f_,f_,f_,f_,f_,f_]
abbrev laws_FnMakers.m10 : Array Bool := #[t_,t_,t_,t_,t_,t_,t_,t_,t_,t_,f_,f_,f_,f_,f_,f_,f_,f_,f_,f_,f_,f_,f_,f_,f_,f_,f_,f_,f_,f_,f_,f_,f_,f_,f_,f_,f_,f_,f_]
abbrev laws_FnMakers.m11 : Array Bool := #[t_,t_,t_,t_,t_,t_,t_,t_,t_,t_,t_,f_,f_,f_,f_,f_,f_,f_,f_,f_,f_,f_,f_,f_,f_,f_,f_,f_,f_,f_,f_,f_,f_,f_,f_,f_,f_,f_,f_]
abbrev laws_FnMakers.m12 : Array Bool := #[t_,t_,t_,t_,t_,t_,t_,t_,t_,t_,t_,t_,f_,f_,f_,f_,f_,f_,f_,f_,f_,f_,f_,f_,f_,f_,f_,f_,f_,f_,f_,f_,f_,f_,f_,f_,f_,f_,f_]
abbrev laws_FnMakers.m13 : Array Bool := #[t_,t_,t_,t_,t_,t_,t_,t_,t_,t_,t_,t_,t_,f_,f_,f_,f_,f_,f_,f_,f_,f_,f_,f_,f_,f_,f_,f_,f_,f_,f_,f_,f_,f_,f_,f_,f_,f_,f_]
abbrev laws_FnMakers.m14 : Array Bool := #[t_,t_,t_,t_,t_,t_,t_,t_,t_,t_,t_,t_,t_,t_,f_,f_,f_,f_,f_,f_,f_,f_,f_,f_,f_,f_,f_,f_,f_,f_,f_,f_,f_,f_,f_,f_,f_,f_,f_]
abbrev laws_FnMakers.m15 : Array Bool := #[t_,t_,t_,t_,t_,t_,t_,t_,t_,t_,t_,t_,t_,t_,t_,f_,f_,f_,f_,f_,f_,f_,f_,f_,f_,f_,f_,f_,f_,f_,f_,f_,f_,f_,f_,f_,f_,f_,f_]
abbrev laws_FnMakers.m16 : Array Bool := #[t_,t_,t_,t_,t_,t_,t_,t_,t_,t_,t_,t_,t_,t_,t_,t_,f_,f_,f_,f_,f_,f_,f_,f_,f_,f_,f_,f_,f_,f_,f_,f_,f_,f_,f_,f_,f_,f_,f_]
abbrev laws_FnMakers.m17 : Array Bool := #[t_,t_,t_,t_,t_,t_,t_,t_,t_,t_,t_,t_,t_,t_,t_,t_,t_,f_,f_,f_,f_,f_,f_,f_,f_,f_,f_,f_,f_,f_,f_,f_,f_,f_,f_,f_,f_,f_,f_]
abbrev laws_FnMakers.m18 : Array Bool := #[t_,t_,t_,t_,t_,t_,t_,t_,t_,t_,t_,t_,t_,t_,t_,t_,t_,t_,f_,f_,f_,f_,f_,f_,f_,f_,f_,f_,f_,f_,f_,f_,f_,f_,f_,f_,f_,f_,f_]
abbrev laws_FnMakers.m19 : Array Bool := #[t_,t_,t_,t_,t_,t_,t_,t_,t_,t_,t_,t_,t_,t_,t_,t_,t_,t_,t_,f_,f_,f_,f_,f_,f_,f_,f_,f_,f_,f_,f_,f_,f_,f_,f_,f_,f_,f_,f_]
abbrev laws_FnMakers.m20 : Array Bool := #[t_,t_,t_,t_,t_,t_,t_,t_,t_,t_,t_,t_,t_,t_,t_,t_,t_,t_,t_,t_,f_,f_,f_,f_,f_,f_,f_,f_,f_,f_,f_,f_,f_,f_,f_,f_,f_,f_,f_]
abbrev laws_FnMakers.m21 : Array Bool := #[t_,t_,t_,t_,t_,t_,t_,t_,t_,t_,t_,t_,t_,t_,t_,t_,t_,t_,t_,t_,t_,f_,f_,f_,f_,f_,f_,f_,f_,f_,f_,f_,f_,f_,f_,f_,f_,f_,f_]
abbrev laws_FnMakers.m22 : Array Bool := #[t_,t_,t_,t_,t_,t_,t_,t_,t_,t_,t_,t_,t_,t_,t_,t_,t_,t_,t_,t_,t_,t_,f_,f_,f_,f_,f_,f_,f_,f_,f_,f_,f_,f_,f_,f_,f_,f_,f_]
abbrev laws_FnMakers.m23 : Array Bool := #[t_,t_,t_,t_,t_,t_,t_,t_,t_,t_,t_,t_,t_,t_,t_,t_,t_,t_,t_,t_,t_,t_,f_,t_,f_,f_,f_,f_,f_,f_,f_,f_,f_,f_,f_,f_,f_,f_,f_]
abbrev laws_FnMakers.m24 : Array Bool := #[t_,t_,t_,t_,t_,t_,t_,t_,t_,t_,t_,t_,t_,t_,t_,t_,t_,t_,t_,t_,t_,t_,f_,t_,t_,f_,f_,f_,f_,f_,f_,f_,f_,f_,f_,f_,f_,f_,f_]
abbrev laws_FnMakers.m25 : Array Bool := #[t_,t_,t_,t_,t_,t_,t_,t_,t_,t_,t_,t_,t_,t_,t_,t_,t_,t_,t_,t_,t_,t_,f_,t_,t_,t_,f_,f_,f_,f_,f_,f_,f_,f_,f_,f_,f_,f_,f_]
abbrev laws_FnMakers.m26 : Array Bool := #[t_,t_,t_,t_,t_,t_,t_,t_,t_,t_,t_,t_,t_,t_,t_,t_,t_,t_,t_,t_,t_,t_,t_,t_,t_,t_,f_,f_,f_,f_,f_,f_,f_,f_,f_,f_,f_,f_,f_]
abbrev laws_FnMakers.m27 : Array Bool := #[t_,t_,t_,t_,t_,t_,t_,t_,t_,t_,t_,t_,t_,t_,t_,t_,t_,t_,t_,t_,t_,t_,t_,t_,t_,t_,t_,f_,f_,f_,f_,f_,f_,f_,f_,f_,f_,f_,f_]
abbrev laws_FnMakers.m28 : Array Bool := #[t_,t_,t_,t_,t_,t_,t_,t_,t_,t_,t_,t_,t_,t_,t_,t_,t_,t_,t_,t_,t_,t_,t_,t_,t_,t_,t_,t_,f_,f_,f_,f_,f_,f_,f_,f_,f_,f_,f_]
abbrev laws_FnMakers.m29 : Array Bool := #[t_,t_,t_,t_,t_,t_,t_,t_,t_,t_,t_,t_,t_,t_,t_,t_,t_,t_,t_,t_,t_,t_,t_,t_,t_,t_,t_,t_,t_,f_,f_,f_,f_,f_,f_,f_,f_,f_,f_]
abbrev laws_FnMakers.m30 : Array Bool := #[t_,t_,t_,t_,t_,t_,t_,t_,t_,t_,t_,t_,t_,t_,t_,t_,t_,t_,t_,t_,t_,t_,t_,t_,t_,t_,t_,t_,t_,t_,f_,f_,f_,f_,f_,f_,f_,f_,f_]
abbrev laws_FnMakers.m31 : Array Bool := #[t_,t_,t_,t_,t_,t_,t_,t_,t_,t_,t_,t_,t_,t_,t_,t_,t_,t_,t_,t_,t_,t_,t_,t_,t_,t_,t_,t_,t_,t_,t_,f_,f_,f_,f_,f_,f_,f_,f_]
abbrev laws_FnMakers.m32 : Array Bool := #[t_,t_,t_,t_,t_,t_,t_,t_,t_,t_,t_,t_,t_,t_,t_,t_,t_,t_,t_,t_,t_,t_,t_,t_,t_,t_,t_,t_,t_,t_,t_,t_,t_,t_,t_,t_,f_,f_,f_]
abbrev laws_FnMakers.m33 : Array Bool := #[t_,t_,t_,t_,t_,t_,t_,t_,t_,t_,t_,t_,t_,t_,t_,t_,t_,t_,t_,t_,t_,t_,t_,t_,t_,t_,t_,t_,t_,t_,t_,t_,t_,t_,t_,t_,t_,f_,f_]
abbrev laws_FnMakers.m34 : Array Bool := #[t_,t_,t_,t_,t_,t_,t_,t_,t_,t_,t_,t_,t_,t_,t_,t_,t_,t_,t_,t_,t_,t_,t_,t_,t_,t_,t_,t_,t_,t_,t_,t_,t_,t_,t_,t_,t_,t_,f_]
abbrev laws_FnMakers.m35 : Array Bool := #[t_,t_,t_,t_,t_,t_,t_,t_,t_,t_,t_,t_,t_,t_,t_,t_,t_,t_,t_,t_,t_,t_,t_,t_,t_,t_,t_,t_,t_,t_,t_,t_,t_,t_,t_,t_,t_,t_,t_]
abbrev laws_FnMakers.m36 : Array Bool := #[t_,t_,t_,t_,t_,t_,t_,t_,t_,t_,t_,t_,t_,t_,t_,t_,t_,t_,t_,t_,t_,t_,t_,t_,t_,t_,t_,t_,t_,t_,t_,t_,f_,f_,f_,f_,f_,f_,f_]
abbrev laws_FnMakers.m37 : Array Bool := #[t_,t_,t_,t_,t_,t_,t_,t_,t_,t_,t_,t_,t_,t_,t_,t_,t_,t_,t_,t_,t_,t_,t_,t_,t_,t_,t_,t_,t_,t_,t_,t_,t_,f_,f_,f_,f_,f_,f_]
abbrev laws_FnMakers.m38 : Array Bool := #[t_,t_,t_,t_,t_,t_,t_,t_,t_,t_,t_,t_,t_,t_,t_,t_,t_,t_,t_,t_,t_,t_,t_,t_,t_,t_,t_,t_,t_,t_,t_,t_,t_,t_,f_,f_,f_,f_,f_]
abbrev laws_FnMakers.m39 : Array Bool := #[t_,t_,t_,t_,t_,t_,t_,t_,t_,t_,t_,t_,t_,t_,t_,t_,t_,t_,t_,t_,t_,t_,t_,t_,t_,t_,t_,t_,t_,t_,t_,t_,t_,t_,t_,f_,f_,f_,f_]
abbrev laws_FnMakers.m40 : Array Bool := #[t_,t_,t_,t_,t_,t_,t_,t_,t_,t_,t_,t_,t_,t_,t_,t_,t_,t_,t_,t_,t_,t_,t_,f_,f_,f_,f_,f_,f_,f_,f_,f_,f_,f_,f_,f_,f_,f_,f_]
abbrev laws_FnMakers.m41 : Array Bool := #[t_,t_,t_,t_,t_,t_,t_,t_,t_,t_,t_,t_,t_,t_,t_,t_,t_,t_,t_,t_,t_,t_,t_,t_,f_,f_,f_,f_,f_,f_,f_,f_,f_,f_,f_,f_,f_,f_,f_]
abbrev laws_FnMakers.m42 : Array Bool := #[t_,t_,t_,t_,t_,t_,t_,t_,t_,t_,t_,t_,t_,t_,t_,t_,t_,t_,t_,t_,t_,t_,t_,t_,t_,f_,f_,f_,f_,f_,f_,f_,f_,f_,f_,f_,f_,f_,f_]
mutual
def laws_FnMakers.j0 : Nat → List Int → Option (Bool)
 | 0, _ => none
 | k + 1, x0 => (spec_DrawMakerPut.f k x0).bind fun bt1013 => ((impl_MakerPut.f k bt1013.1 bt1013.2.1 bt1013.2.2.1 bt1013.2.2.2.1 bt1013.2.2.2.2.1 bt1013.2.2.2.2.2.1 bt1013.2.2.2.2.2.2.1 bt1013.2.2.2.2.2.2.2.1 bt1013.2.2.2.2.2.2.2.2).bind fun bt1025 => ((spec_DrawMakerSet.f k x0).bind fun bt1033 => ((impl_MakerSet.f k bt1033.1 bt1033.2.1 bt1033.2.2.1 bt1033.2.2.2.1 bt1033.2.2.2.2.1 bt1033.2.2.2.2.2).bind fun t1044 => ((spec_DrawMakerOf.f k x0).bind fun bt1047 => ((spec_DrawMakerOk.f k x0).bind fun bt1052 => ((spec_MakerPut.f k bt1013.1 bt1013.2.1 bt1013.2.2.1 bt1013.2.2.2.1 bt1013.2.2.2.2.1 bt1013.2.2.2.2.2.1 bt1013.2.2.2.2.2.2.1 bt1013.2.2.2.2.2.2.2.1 bt1013.2.2.2.2.2.2.2.2).bind fun bt1061 => ((laws_sameMaker.f k bt1025.1 bt1025.2.1 bt1025.2.2.1 bt1025.2.2.2.1 bt1025.2.2.2.2 bt1061.1 bt1061.2.1 bt1061.2.2.1 bt1061.2.2.2.1 bt1061.2.2.2.2).bind fun t1068 => (if t1068 = true then ((spec_MakerSet.f k bt1033.1 bt1033.2.1 bt1033.2.2.1 bt1033.2.2.2.1 bt1033.2.2.2.2.1 bt1033.2.2.2.2.2).bind fun t1069 => (if (t1044.length : Int) = (t1069.length : Int) then ((impl_MakerOf.f k bt1047.1 bt1047.2.1 bt1047.2.2).bind fun bt1072 => ((spec_MakerOf.f k bt1047.1 bt1047.2.1 bt1047.2.2).bind fun bt1079 => ((laws_sameMaker.f k bt1072.1 bt1072.2.1 bt1072.2.2.1 bt1072.2.2.2.1 bt1072.2.2.2.2 bt1079.1 bt1079.2.1 bt1079.2.2.1 bt1079.2.2.2.1 bt1079.2.2.2.2).bind fun t1086 => (if t1086 = true then ((impl_MakerOk.f k bt1052.1 bt1052.2.1 bt1052.2.2.1 bt1052.2.2.2.1 bt1052.2.2.2.2.1 bt1052.2.2.2.2.2).bind fun t1087 => ((spec_MakerOk.f k bt1052.1 bt1052.2.1 bt1052.2.2.1 bt1052.2.2.2.1 bt1052.2.2.2.2.1 bt1052.2.2.2.2.2).bind fun t1088 => (laws_FnMakers.j1 k bt1013.2.2.2.2.2.1 bt1013.2.2.2.2.2.2.1 bt1013.2.2.2.2.2.2.2.1 t1044 (t1087 != t1088) bt1013.1 bt1013.2.1 bt1013.2.2.1 bt1013.2.2.2.1 bt1013.2.2.2.2.1 bt1025.1 bt1025.2.1 bt1025.2.2.1 bt1025.2.2.2.1 bt1025.2.2.2.2 bt1033.2.1 bt1033.2.2.1 bt1033.2.2.2.1 bt1033.2.2.2.2.1 bt1033.2.2.2.2.2))) else (laws_FnMakers.j1 k bt1013.2.2.2.2.2.1 bt1013.2.2.2.2.2.2.1 bt1013.2.2.2.2.2.2.2.1 t1044 true bt1013.1 bt1013.2.1 bt1013.2.2.1 bt1013.2.2.2.1 bt1013.2.2.2.2.1 bt1025.1 bt1025.2.1 bt1025.2.2.1 bt1025.2.2.2.1 bt1025.2.2.2.2 bt1033.2.1 bt1033.2.2.1 bt1033.2.2.2.1 bt1033.2.2.2.2.1 bt1033.2.2.2.2.2))))) else (laws_FnMakers.j1 k bt1013.2.2.2.2.2.1 bt1013.2.2.2.2.2.2.1 bt1013.2.2.2.2.2.2.2.1 t1044 true bt1013.1 bt1013.2.1 bt1013.2.2.1 bt1013.2.2.2.1 bt1013.2.2.2.2.1 bt1025.1 bt1025.2.1 bt1025.2.2.1 bt1025.2.2.2.1 bt1025.2.2.2.2 bt1033.2.1 bt1033.2.2.1 bt1033.2.2.2.1 bt1033.2.2.2.2.1 bt1033.2.2.2.2.2))) else (laws_FnMakers.j1 k bt1013.2.2.2.2.2.1 bt1013.2.2.2.2.2.2.1 bt1013.2.2.2.2.2.2.2.1 t1044 true bt1013.1 bt1013.2.1 bt1013.2.2.1 bt1013.2.2.2.1 bt1013.2.2.2.2.1 bt1025.1 bt1025.2.1 bt1025.2.2.1 bt1025.2.2.2.1 bt1025.2.2.2.2 bt1033.2.1 bt1033.2.2.1 bt1033.2.2.2.1 bt1033.2.2.2.2.1 bt1033.2.2.2.2.2)))))))))
def laws_FnMakers.j1 : Nat → Int → Int → Int → List (S_Maker) → Bool → Int → Int → Int → Int → List (S_Mark) → Int → Int → Int → Int → List (S_Mark) → Int → Int → Int → Int → List (S_Mark) → Option (Bool)
 | 0, _, _, _, _, _, _, _, _, _, _, _, _, _, _, _, _, _, _, _, _ => none
 | k + 1, x4, x5, x6, x11, x92, x1025000, x1025001, x1025002, x1025003, x1025004, x1033000, x1033001, x1033002, x1033003, x1033004, x1044000, x1044001, x1044002, x1044003, x1044004 => if x92 = true then (some false) else (laws_FnMakers.j2 k x4 x5 x6 x11 x1025000 x1025001 x1025002 x1025003 x1025004 x1033000 x1033001 x1033002 x1033003 x1033004 x1044000 x1044001 x1044002 x1044003 x1044004)
def laws_FnMakers.j2 : Nat → Int → Int → Int → List (S_Maker) → Int → Int → Int → Int → List (S_Mark) → Int → Int → Int → Int → List (S_Mark) → Int → Int → Int → Int → List (S_Mark) → Option (Bool)
 | 0, _, _, _, _, _, _, _, _, _, _, _, _, _, _, _, _, _, _, _ => none
 | k + 1, x4, x5, x6, x11, x1025000, x1025001, x1025002, x1025003, x1025004, x1033000, x1033001, x1033002, x1033003, x1033004, x1044000, x1044001, x1044002, x1044003, x1044004 => (impl_MakerOf.f k x11 x1044000 x1044001).bind fun bt1089 => ((laws_sameMaker.f k bt1089.1 bt1089.2.1 bt1089.2.2.1 bt1089.2.2.2.1 bt1089.2.2.2.2 x1044000 x1044001 x1044002 x1044003 x1044004).bind fun t1096 => (if t1096 = true then (laws_FnMakers.j3 k x4 x5 x6 x1025000 x1025001 x1025002 x1025003 x1025004 x1033000 x1033001 x1033002 x1033003 x1033004) else (some false)))
def laws_FnMakers.j3 : Nat → Int → Int → Int → Int → Int → Int → Int → List (S_Mark) → Int → Int → Int → Int → List (S_Mark) → Option (Bool)
 | 0, _, _, _, _, _, _, _, _, _, _, _, _, _ => none
 | k + 1, x4, x5, x6, x1025000, x1025001, x1025002, x1025003, x1025004, x1033000, x1033001, x1033002, x1033003, x1033004 => (impl_MakerAsk.f k x1025000 x1025001 x1025002 x1025003 x1025004 x5 x6).bind fun bt1097 => (if bt1097.1 = 0 then (if x4 > 0 then (if (x1033004.length : Int) > x4 then (some false) else (some true)) else (some true)) else ((laws_sameMaker.f k x1033000 x1033001 x1033002 x1033003 x1033004 x1025000 x1025001 x1025002 x1025003 x1025004).bind fun t1099 => (some t1099)))
end
def laws_FnMakers.f (k : Nat) (l0 : List Int) : Option (Bool) := (laws_big.f l0).bind fun t1012 => (if t1012 = true then (some true) else (laws_FnMakers.j0 k l0))
theorem laws_FnMakers.mono_l : ∀ k, (∀ y0, LeO (laws_FnMakers.j0 k y0) (laws_FnMakers.j0 (k + 1) y0)) ∧ (∀ y0 y1 y2 y3 y4 y5 y6 y7 y8 y9 y10 y11 y12 y13 y14 y15 y16 y17 y18 y19, LeO (laws_FnMakers.j1 k y0 y1 y2 y3 y4 y5 y6 y7 y8 y9 y10 y11 y12 y13 y14 y15 y16 y17 y18 y19) (laws_FnMakers.j1 (k + 1) y0 y1 y2 y3 y4 y5 y6 y7 y8 y9 y10 y11 y12 y13 y14 y15 y16 y17 y18 y19)) ∧ (∀ y0 y1 y2 y3 y4 y5 y6 y7 y8 y9 y10 y11 y12 y13 y14 y15 y16 y17 y18, LeO (laws_FnMakers.j2 k y0 y1 y2 y3 y4 y5 y6 y7 y8 y9 y10 y11 y12 y13 y14 y15 y16 y17 y18) (laws_FnMakers.j2 (k + 1) y0 y1 y2 y3 y4 y5 y6 y7 y8 y9 y10 y11 y12 y13 y14 y15 y16 y17 y18)) ∧ (∀ y0 y1 y2 y3 y4 y5 y6 y7 y8 y9 y10 y11 y12, LeO (laws_FnMakers.j3 k y0 y1 y2 y3 y4 y5 y6 y7 y8 y9 y10 y11 y12) (laws_FnMakers.j3 (k + 1) y0 y1 y2 y3 y4 y5 y6 y7 y8 y9 y10 y11 y12))
 | 0 => ⟨fun _ r h => by simp [laws_FnMakers.j0] at h, fun _ _ _ _ _ _ _ _ _ _ _ _ _ _ _ _ _ _ _ _ r h => by simp [laws_FnMakers.j1] at h, fun _ _ _ _ _ _ _ _ _ _ _ _ _ _ _ _ _ _ _ r h => by simp [laws_FnMakers.j2] at h, fun _ _ _ _ _ _ _ _ _ _ _ _ _ r h => by simp [laws_FnMakers.j3] at h⟩
 | k + 1 => by
  obtain ⟨ih0, ih1, ih2, ih3⟩ := laws_FnMakers.mono_l k
  refine ⟨?_, ?_, ?_, ?_⟩
  ·
   intro y0
   unfold laws_FnMakers.j0
   exact qfh0_
  ·
   intro y0 y1 y2 y3 y4 y5 y6 y7 y8 y9 y10 y11 y12 y13 y14 y15 y16 y17 y18 y19
   unfold laws_FnMakers.j1
   exact qfh0_
  ·
   intro y0 y1 y2 y3 y4 y5 y6 y7 y8 y9 y10 y11 y12 y13 y14 y15 y16 y17 y18
   unfold laws_FnMakers.j2
   exact qfh0_
  ·
   intro y0 y1 y2 y3 y4 y5 y6 y7 y8 y9 y10 y11 y12
   unfold laws_FnMakers.j3
   exact qfh0_
theorem laws_FnMakers.mono : ∀ a0 k, LeO (laws_FnMakers.f k a0) (laws_FnMakers.f (k + 1) a0) := by
 intro a0 k
 obtain ⟨ih0, ih1, ih2, ih3⟩ := laws_FnMakers.mono_l k
 unfold laws_FnMakers.f
 exact qfh0_
def laws_FnMakers.T9 : Bool × List (List Nat × List Nat) := (true, [([], []), ([], []), ([], []), ([], []), ([], []), ([], []), ([1, 2, 3, 4, 5], [1, 2, 3, 4, 5]), ([0, 6, 6], [0, 6]), ([7], [7]), ([8, 7], [8]), ([9], [9]), ([10, 9], [9, 10]), ([9], [9]), ([9], [9]), ([12, 13, 9, 9], [9, 12, 13]), ([14, 9], [9, 14]), ([11, 15, 9], [9, 11, 15]), ([9, 16], [9, 16]), ([17, 14], [17]), ([18], [18]), ([18], [18]), ([18], [18]), ([19, 20, 21, 18, 18], [18, 19, 20, 21]), ([18], [18]), ([18], [18]), ([18], [18]), ([23, 24, 25, 22, 18], [18, 23, 24, 25]), ([22, 26, 26, 18], [18, 22, 26]), ([27, 18], [18, 27]), ([18, 28], [18, 28]), ([29, 27], [29]), ([30], [30]), ([30], [30]), ([31, 32, 30, 30], [30, 31, 32]), ([30], [30]), ([30], [30]), ([34, 35, 33, 30], [30, 34, 35]), ([33, 36, 30], [30, 33, 36]), ([30, 37], [30, 37])])
def laws_FnMakers.B9 : List Nat := [0, 0, 0, 0, 0, 0, 62, 127, 255, 511, 1023, 2047, 1023, 1023, 13311, 29695, 65535, 131071, 262143, 524287, 524287, 524287, 4194303, 524287, 524287, 524287, 67108863, 134217727, 268435455, 536870911, 1073741823, 2147483647, 2147483647, 8589934591, 2147483647, 2147483647, 68719476735, 137438953471, 274877906943]
theorem laws_FnMakers.tab9 : rtab .any (opsOf Try.f7 9) = laws_FnMakers.T9 := by kernel_rfl
theorem laws_FnMakers.bits9 : waitsOk laws_FnMakers.T9.2 laws_FnMakers.B9 = true := by kernel_rfl
def laws_FnMakers.T11 : Bool × List (List Nat × List Nat) := (true, [([], []), ([], []), ([1], [1]), ([], []), ([3], [3]), ([0, 2, 4], [0, 2, 4]), ([], []), ([5, 6, 5], [5, 6]), ([7], [7])])
def laws_FnMakers.B11 : List Nat := [0, 0, 2, 0, 8, 31, 0, 127, 255]
theorem laws_FnMakers.tab11 : rtab .any (opsOf Try.f7 11) = laws_FnMakers.T11 := by kernel_rfl
theorem laws_FnMakers.bits11 : waitsOk laws_FnMakers.T11.2 laws_FnMakers.B11 = true := by kernel_rfl
end Go.Proofs.Ythmjhhkheohgfaa.Q
