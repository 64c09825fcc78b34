/- Made by a program of ours out of the print of the loaded functions: for each of some functions a plain function, and the walk that shows that a call comes to what it says. No condition but those of each theorem. -/
import Derived.Test.YtiknkolclcdajaaZFnRows0
namespace Go.Proofs.Ytiknkolclcdajaa.Q
open Go.RowKit Go.Proofs.YtiknkolclcdajaaW.PrintWords Go.Proofs.YtiknkolclcdajaaW.PrintLast Go.Proofs.YtiknkolclcdajaaW.PrintMore
attribute [local go_sem] max2_int min2_int max_two min_two max_three min_three max_four min_four   -- for this text's walks alone
set_option linter.unusedVariables false
set_option linter.unusedSimpArgs false
theorem qa0_ {P : Prop} (h : P := by repeat (first | (with_reducible first | exact HB.out | apply below_alloc | apply pw_below_drewN | apply below_drew1) | exact HB.out)) : P := h
theorem qa1_ {P : Prop} (h : P := by repeat (first | (with_reducible first | exact HK.out | apply KeepBut.set_ | apply keep_drewN | apply keep_drew | apply keep_alloc) | exact HK.out)) : P := h
theorem qa2_ {P : Prop} (h : P := by first | rfl | (simp; done) | (simp [*]; done)) : P := h
theorem qa3_ {P : Prop} (h : P := by repeat (first | exact Drawn0.refl _ | apply Drawn0.step)) : P := h
theorem qa4_ {P : Prop} (h : P := by (try simp only [List.map_toArray, List.map_cons, List.map_nil]); first | done | rfl | (simp only [List.length_drop, List.length_take]; rfl)) : P := h
theorem qa5_ {P : Prop} (h : P := by repeat (first | (with_reducible first | exact HI0.out | apply IsS_l1Cur.alloc | apply IsS_l1Cur.drewN | apply IsS_l1Cur.drew | apply IsS_l1Cur.set_1 | apply IsS_l1Cur.set_2) | exact HI0.out)) : P := h
theorem qa6_ {P : Prop} (h : P := by repeat (first | (with_reducible first | exact HB.out | apply below_alloc | apply pw_below_drewN | apply below_drew1 | refine below_set ?_ (IsS_l1Cur.ge HI0.out)) | exact HB.out)) : P := h
theorem qa7_ {P : Prop} (h : P := by first | rfl | (simp [errW_none, errW_some] <;> rfl) | (simp [*, errW_none, errW_some] <;> rfl)) : P := h
theorem qa8_ {P : Prop} (h : P := by repeat (first | (with_reducible first | exact HB.out | apply below_alloc | apply pw_below_drewN | apply below_drew1 | refine below_set ?_ GE1085.out | refine below_set ?_ GE1086.out) | exact HB.out)) : P := h
theorem qa9_ {P : Prop} (h : P := by repeat (first | (with_reducible first | exact HBW.out | apply below_alloc | apply pw_below_drewN | apply below_drew1) | exact HBW.out)) : P := h
theorem qa10_ {P : Prop} (h : P := by repeat (first | (with_reducible first | exact HB.out | apply below_alloc | apply pw_below_drewN | apply below_drew1 | refine below_set ?_ GE1093.out) | exact HB.out)) : P := h
theorem qa11_ {P : Prop} (h : P := by repeat (first | (with_reducible first | exact HB.out | apply below_alloc | apply pw_below_drewN | apply below_drew1 | refine below_set ?_ GE1072.out) | exact HB.out)) : P := h
theorem qa12_ {P : Prop} (h : P := by repeat (first | (with_reducible first | exact HB.out | apply below_alloc | apply pw_below_drewN | apply below_drew1 | refine below_set ?_ GE1085.out) | exact HB.out)) : P := h
theorem qa13_ {P : Prop} (h : P := by have := HK1.out; have := HJ3.out; first | omega | exact Nat.le_refl _) : P := h
theorem qah0_ {P : Prop} (h : P := by repeat' first | (with_reducible exact ih0 _ _ _) | (with_reducible exact LeO.refl _) | (with_reducible exact LeO.none _) | (with_reducible refine LeO.ite ?_ ?_) | (with_reducible refine LeO.bind ?_ (fun _ => ?_)) | exact ih0 _ _ _ | exact LeO.none _ | refine LeO.ite ?_ ?_ | refine LeO.bind ?_ (fun _ => ?_)) : P := h
theorem qah1_ {P : Prop} (h : P := by repeat' first | (with_reducible exact ih0 _ _) | (with_reducible exact LeO.refl _) | (with_reducible exact LeO.none _) | (with_reducible refine LeO.ite ?_ ?_) | (with_reducible refine LeO.bind ?_ (fun _ => ?_)) | exact ih0 _ _ | exact LeO.none _ | refine LeO.ite ?_ ?_ | refine LeO.bind ?_ (fun _ => ?_)) : P := h
theorem qah2_ {P : Prop} (h : P := by repeat' first | (with_reducible exact ih0 _ _ _) | (with_reducible exact ih1 _ _ _ _) | (with_reducible exact ih2 _ _ _ _) | (with_reducible exact ih3 _ _ _ _ _) | (with_reducible exact spec_l3Item.mono _ _ _ _ _ _) | (with_reducible exact LeO.refl _) | (with_reducible exact LeO.none _) | (with_reducible refine LeO.ite ?_ ?_) | (with_reducible refine LeO.bind ?_ (fun _ => ?_)) | exact ih0 _ _ _ | exact ih1 _ _ _ _ | exact ih2 _ _ _ _ | exact ih3 _ _ _ _ _ | exact spec_l3Item.mono _ _ _ _ _ _ | exact LeO.none _ | refine LeO.ite ?_ ?_ | refine LeO.bind ?_ (fun _ => ?_)) : P := h
theorem qah3_ {P : Prop} (h : P := by repeat' first | (with_reducible exact ih0 _ _ _ _ _) | (with_reducible exact LeO.refl _) | (with_reducible exact LeO.none _) | (with_reducible refine LeO.ite ?_ ?_) | (with_reducible refine LeO.bind ?_ (fun _ => ?_)) | exact ih0 _ _ _ _ _ | exact LeO.none _ | refine LeO.ite ?_ ?_ | refine LeO.bind ?_ (fun _ => ?_)) : P := h

theorem hk_ {w W W' : World} {g : Nat} {row row' : Option Nat} (x : KeepBut w W g row) (h : KeepBut w W g row → KeepBut w W' g row' := by intro h_; repeat (first | (with_reducible first | exact h_ | apply KeepBut.set_ | apply keep_drewN | apply keep_drew | apply keep_alloc | refine keep_far ?_ (Aside0.out (by assumption)) _) | exact h_)) : KeepBut w W' g row' := h x
theorem nl_ {g b : Nat} {o : Obj} {W w : World} (x : W.heap[g]? = some o) (hg : b = w.heap.size) (h : W.heap[g]? = some o → w.heap[g]? = some o := by intro h_; (with_reducible repeat (first | refine blk_drewN ?_ _ | refine blk_drew ?_ | refine blk_alloc ?_ _)); exact h_) : g ≠ b := by rw [hg]; exact Nat.ne_of_lt (blk_lt (h x))
theorem ng_ {g b : Nat} {o : Obj} {W w : World} (x : W.heap[g]? = some o) (hg : b = w.heap.size) (h : W.heap[g]? = some o → w.heap[g]? = some o := by intro h_; (with_reducible repeat (first | refine blk_drewN ?_ _ | refine blk_drew ?_ | refine blk_alloc ?_ _)); exact h_) : b ≠ g := by rw [hg]; exact Nat.ne_of_gt (blk_lt (h x))
theorem er_ {q : Prop} (h : q := by first | rfl | (simp [errW_none, errW_some] <;> rfl) | (simp [*, errW_none, errW_some] <;> rfl)) : q := h
theorem eqA_Item (d : Nat) (w : World) (x0 y0 : Int) (x1 y1 : ByteArray) (x2 y2 : ByteArray) (x3 y3 : Int) (x4 y4 : Int) :
    (Op.equalIn (d + 2) 69 (.agg #[.int .i64 x0, .string x1, .string x2, .int .i64 x3, .int .i64 x4]) (.agg #[.int .i64 y0, .string y1, .string y2, .int .i64 y3, .int .i64 y4])).run Try.prog w = .ok (x0 == y0 && (x1.toList == y1.toList && (x2.toList == y2.toList && (x3 == y3 && (x4 == y4))))) w := by
  refine eqA_of Try.underlying69 (by kernel_rfl) ?_
  refine eqf_cons (by rfl) (by go_simp; rfl) (by go_simp; rfl) (by go_simp) ?_
  refine eqf_cons (by rfl) (by go_simp; rfl) (by go_simp; rfl) (by go_simp) ?_
  refine eqf_cons (by rfl) (by go_simp; rfl) (by go_simp; rfl) (by go_simp) ?_
  refine eqf_cons (by rfl) (by go_simp; rfl) (by go_simp; rfl) (by go_simp) ?_
  exact eqf_last (by rfl) (by go_simp; rfl) (by go_simp; rfl) (by go_simp)
/-! ### laws_big: function 12 -/
def laws_big.f (l0 : List Int) : Option (Bool) := some (decide ((l0.length : Int) > 1048576))
set_option maxHeartbeats 8000000 in
set_option maxRecDepth 100000 in
theorem laws_big.calls (A0 : Option Addr) (c0 : Nat) (l0 : List Int) (r : Bool) (w : World) (hr0 : Kd.C (Kd.int .u8) w A0 l0.length l0) (hc0 : l0.length ≤ c0) (h : laws_big.f l0 = some r) :
    Calls Try.prog 12 #[.slice A0 l0.length c0] w fun e w' => e = .returned (.bool r) ∧ Drawn0 w w' := by
  have HR0 := Aside0.mk hr0
  have HC0 := Aside0.mk hc0
  clear hr0 hc0
  have H : (some (decide ((l0.length : Int) > 1048576))) = some r := h
  clear h
  obtain rfl := Option.some.inj H
  go_enter Try.func12, Try.ntmps12
  go_wp2
  go_ret
  exact ⟨qa2_, qa3_⟩

/-- A state of type 178 at block g of W; what its slices lead to came in by w0. -/
def IsS_l1Cur (w0 W : World) (g : Nat) (f0 : List Int) (f1 : Int) (f2 : Int) : Prop := ∃ A0 c0, W.heap[g]? = some (.cells #[.slice A0 f0.length c0, .int .i64 f1, .int .i64 f2] 178 (0, 0)) ∧ w0.heap.size ≤ g ∧ (Kd.C (Kd.int .u8) w0 A0 f0.length f0 ∧ f0.length ≤ c0)
theorem IsS_l1Cur.grown {w0 W : World} {g : Nat} {f0 : List Int} {f1 : Int} {f2 : Int} {W1 : World} {row : Option Nat} (h : IsS_l1Cur w0 W g f0 f1 f2) (hw : W.grownBy W1 row) (hne : some g ≠ row) : IsS_l1Cur w0 W1 g f0 f1 f2 := by
  obtain ⟨A0, c0, hb, hg, ⟨hr0, hz0⟩⟩ := h
  exact ⟨A0, c0, blk_grown hb hw hne, hg, ⟨hr0, hz0⟩⟩
theorem IsS_l1Cur.own_neN {w0 W : World} {g : Nat} {f0 : List Int} {f1 : Int} {f2 : Int} {α : Type} {d : Kd α} {e : Nat} {base : Nat} {ok : Nat → Prop} {v : Value} {xs : List α} (h : IsS_l1Cur w0 W g f0 f1 f2) (ho : Kd.N d e W base ok v xs) (ht : e ≠ 178) : some g ≠ v.ownBlock := by
  obtain ⟨A0, c0, hb, hg, ⟨hr0, hz0⟩⟩ := h
  exact Kd.N_ne ho hb ht
theorem IsS_l1Cur.fresh {w0 W : World} {g : Nat} {f0 : List Int} {f1 : Int} {f2 : Int} (h : IsS_l1Cur w0 W g f0 f1 f2) : ∀ k, W.heap.size ≤ k → k ≠ g := by
  obtain ⟨A0, c0, hb, hg, ⟨hr0, hz0⟩⟩ := h
  exact Kd.freshB hb
theorem IsS_l1Cur.kept {w0 W : World} {g : Nat} {f0 : List Int} {f1 : Int} {f2 : Int} {W1 : World} {S : Nat → Prop} (h : IsS_l1Cur w0 W g f0 f1 f2) (hk : Kept W W1 S) (hne : ¬ S g) : IsS_l1Cur w0 W1 g f0 f1 f2 := by
  obtain ⟨A0, c0, hb, hg, ⟨hr0, hz0⟩⟩ := h
  exact ⟨A0, c0, blk_kept hb hk hne, hg, ⟨hr0, hz0⟩⟩
theorem IsS_l1Cur.below {w0 W : World} {g : Nat} {f0 : List Int} {f1 : Int} {f2 : Int} {W1 : World} (h : IsS_l1Cur w0 W g f0 f1 f2) (hw : Below W.heap.size W W1) : IsS_l1Cur w0 W1 g f0 f1 f2 := h.grown (grown_of_below hw none) (by simp)
theorem IsS_l1Cur.alloc {w0 W : World} {g : Nat} {f0 : List Int} {f1 : Int} {f2 : Int} (h : IsS_l1Cur w0 W g f0 f1 f2) (o : Obj) : IsS_l1Cur w0 (W.alloc o) g f0 f1 f2 := h.below (below_alloc (Below.refl _ _) o)
theorem IsS_l1Cur.drewN {w0 W : World} {g : Nat} {f0 : List Int} {f1 : Int} {f2 : Int} (h : IsS_l1Cur w0 W g f0 f1 f2) (m : Nat) : IsS_l1Cur w0 (W.drewN m) g f0 f1 f2 := h
theorem IsS_l1Cur.drew {w0 W : World} {g : Nat} {f0 : List Int} {f1 : Int} {f2 : Int} (h : IsS_l1Cur w0 W g f0 f1 f2) : IsS_l1Cur w0 W.drew g f0 f1 f2 := h
theorem IsS_l1Cur.at_ {w0 W : World} {g : Nat} {f0 : List Int} {f1 : Int} {f2 : Int} {w' : World} {m : Nat} (hq : W.drewN m = w') (h : IsS_l1Cur w0 W g f0 f1 f2) : IsS_l1Cur w0 w' g f0 f1 f2 := by subst hq; exact IsS_l1Cur.drewN h m
theorem IsS_l1Cur.apart {w0 W : World} {g : Nat} {f0 : List Int} {f1 : Int} {f2 : Int} {α : Type} {d : Kd α} {e : Nat} {base : Nat} {ok : Nat → Prop} {v : Value} {xs : List α} (h : IsS_l1Cur w0 W g f0 f1 f2) (ho : d.R e W base ok v xs) (ht : ∀ q, q ∈ e :: d.E → q ≠ 178) : d.R e W base (fun k => ok k ∧ k ≠ g) v xs := by
  obtain ⟨A0, c0, hb, hg, ⟨hr0, hz0⟩⟩ := h
  exact Kd.R_types ho hb ht
theorem IsS_l1Cur.own_ne {w0 W : World} {g : Nat} {f0 : List Int} {f1 : Int} {f2 : Int} {α : Type} {d : Kd α} {e : Nat} {base : Nat} {ok : Nat → Prop} {v : Value} {xs : List α} (h : IsS_l1Cur w0 W g f0 f1 f2) (ho : d.R e W base ok v xs) (ht : e ≠ 178) : some g ≠ v.ownBlock := by
  obtain ⟨A0, c0, hb, hg, ⟨hr0, hz0⟩⟩ := h
  exact Kd.R_ne ho hb ht
theorem IsS_l1Cur.apartQ {w0 W : World} {g : Nat} {f0 : List Int} {f1 : Int} {f2 : Int} {α : Type} {d : Kd α} {e : Nat} {base : Nat} {ok : Nat → Prop} {v : Value} {xs : List α} (h : IsS_l1Cur w0 W g f0 f1 f2) (ho : d.Q e W base ok v xs) (ht : ∀ q, q ∈ e :: d.E → q ≠ 178) : d.Q e W base (fun k => ok k ∧ k ≠ g) v xs := by
  obtain ⟨A0, c0, hb, hg, ⟨hr0, hz0⟩⟩ := h
  exact Kd.Q_types ho hb ht
theorem IsS_l1Cur.own_neQ {w0 W : World} {g : Nat} {f0 : List Int} {f1 : Int} {f2 : Int} {α : Type} {d : Kd α} {e : Nat} {base : Nat} {ok : Nat → Prop} {v : Value} {xs : List α} (h : IsS_l1Cur w0 W g f0 f1 f2) (ho : d.Q e W base ok v xs) (ht : e ≠ 178) : some g ≠ v.ownBlock := by
  obtain ⟨A0, c0, hb, hg, ⟨hr0, hz0⟩⟩ := h
  exact Kd.Q_ne ho hb ht
theorem IsS_l1Cur.apartS {w0 W : World} {g : Nat} {f0 : List Int} {f1 : Int} {f2 : Int} {α : Type} {d : Kd α} {e : Nat} {base : Nat} {ok : Nat → Prop} {v : Value} {xs : List α} (h : IsS_l1Cur w0 W g f0 f1 f2) (ho : d.S e W base ok v xs) (ht : ∀ q, q ∈ e :: d.E → q ≠ 178) : d.S e W base (fun k => ok k ∧ k ≠ g) v xs := by
  obtain ⟨A0, c0, hb, hg, ⟨hr0, hz0⟩⟩ := h
  exact Kd.S_types ho hb ht
theorem IsS_l1Cur.own_neS {w0 W : World} {g : Nat} {f0 : List Int} {f1 : Int} {f2 : Int} {α : Type} {d : Kd α} {e : Nat} {base : Nat} {ok : Nat → Prop} {v : Value} {xs : List α} (h : IsS_l1Cur w0 W g f0 f1 f2) (ho : d.S e W base ok v xs) (ht : e ≠ 178) : some g ≠ v.ownBlock := by
  obtain ⟨A0, c0, hb, hg, ⟨hr0, hz0⟩⟩ := h
  exact Kd.S_ne ho hb ht
theorem IsS_l1Cur.lt {w0 W : World} {g : Nat} {f0 : List Int} {f1 : Int} {f2 : Int} (h : IsS_l1Cur w0 W g f0 f1 f2) : g < W.heap.size := by
  obtain ⟨A0, c0, hb, hg, ⟨hr0, hz0⟩⟩ := h
  exact blk_lt hb
theorem IsS_l1Cur.ge {w0 W : World} {g : Nat} {f0 : List Int} {f1 : Int} {f2 : Int} (h : IsS_l1Cur w0 W g f0 f1 f2) : w0.heap.size ≤ g := by
  obtain ⟨A0, c0, hb, hg, ⟨hr0, hz0⟩⟩ := h
  exact hg
theorem IsS_l1Cur.ne_blk {w0 W : World} {g : Nat} {f0 : List Int} {f1 : Int} {f2 : Int} {a : Nat} {cs : Array Value} {t : TypeId} {fr : Nat × Nat} (h : IsS_l1Cur w0 W g f0 f1 f2) (hb2 : W.heap[a]? = some (.cells cs t fr)) (ht : t ≠ 178) : g ≠ a := by
  obtain ⟨A0, c0, hb, hg, ⟨hr0, hz0⟩⟩ := h
  rintro rfl
  rw [hb] at hb2
  injection hb2 with hb2
  injection hb2 with _ ht2
  exact ht ht2.symm
theorem IsS_l1Cur.far {w0 W : World} {g : Nat} {f0 : List Int} {f1 : Int} {f2 : Int} {p : Addr} (h : IsS_l1Cur w0 W g f0 f1 f2) (hne : g ≠ p.block) (u : Value) : IsS_l1Cur w0 (W.setCell p u) g f0 f1 f2 := by
  obtain ⟨A0, c0, hb, hg, ⟨hr0, hz0⟩⟩ := h
  exact ⟨A0, c0, blk_far hb hne u, hg, ⟨hr0, hz0⟩⟩
theorem cellS178_0 {W : World} {g : Nat} {A0 : Option Addr} {c0 : Nat} {f0 : List Int} {f1 : Int} {f2 : Int} (h : W.heap[g]? = some (.cells #[.slice A0 f0.length c0, .int .i64 f1, .int .i64 f2] 178 (0, 0))) : W.cell? ⟨g, 0, none⟩ = some (.slice A0 f0.length c0) := (blk_cell h 0).trans rfl
theorem cellS178_1 {W : World} {g : Nat} {A0 : Option Addr} {c0 : Nat} {f0 : List Int} {f1 : Int} {f2 : Int} (h : W.heap[g]? = some (.cells #[.slice A0 f0.length c0, .int .i64 f1, .int .i64 f2] 178 (0, 0))) : W.cell? ⟨g, 1, none⟩ = some (.int .i64 f1) := (blk_cell h 1).trans rfl
theorem IsS_l1Cur.set_1 {w0 W : World} {g : Nat} {f0 : List Int} {f1 : Int} {f2 : Int} (h : IsS_l1Cur w0 W g f0 f1 f2) (x : Int) : IsS_l1Cur w0 (W.setCell ⟨g, 1, none⟩ (.int .i64 x)) g f0 x f2 := by
  obtain ⟨A0, c0, hb, hg, ⟨hr0, hz0⟩⟩ := h
  exact ⟨A0, c0, by simpa using blk_set hb 1 (.int .i64 x), hg, ⟨hr0, hz0⟩⟩
theorem cellS178_2 {W : World} {g : Nat} {A0 : Option Addr} {c0 : Nat} {f0 : List Int} {f1 : Int} {f2 : Int} (h : W.heap[g]? = some (.cells #[.slice A0 f0.length c0, .int .i64 f1, .int .i64 f2] 178 (0, 0))) : W.cell? ⟨g, 2, none⟩ = some (.int .i64 f2) := (blk_cell h 2).trans rfl
theorem IsS_l1Cur.set_2 {w0 W : World} {g : Nat} {f0 : List Int} {f1 : Int} {f2 : Int} (h : IsS_l1Cur w0 W g f0 f1 f2) (x : Int) : IsS_l1Cur w0 (W.setCell ⟨g, 2, none⟩ (.int .i64 x)) g f0 f1 x := by
  obtain ⟨A0, c0, hb, hg, ⟨hr0, hz0⟩⟩ := h
  exact ⟨A0, c0, by simpa using blk_set hb 2 (.int .i64 x), hg, ⟨hr0, hz0⟩⟩
theorem IsS_l1Cur.new (w0 W : World) (A0 : Option Addr) (c0 : Nat) (f0 : List Int) (f1 : Int) (f2 : Int) (hB : Below w0.heap.size w0 W) (hr0 : Kd.C (Kd.int .u8) w0 A0 f0.length f0) (hz0 : f0.length ≤ c0) : IsS_l1Cur w0 (W.alloc (.cells #[.slice A0 f0.length c0, .int .i64 f1, .int .i64 f2] 178)) W.heap.size f0 f1 f2 := ⟨A0, c0, by simpa using heap_alloc_new W _, hB.size, ⟨hr0, hz0⟩⟩

theorem is_l1Cur_ {w0 W W' : World} {g : Nat} {f0 f0' : List Int} {f1 f2 f1' f2' : Int} (x : IsS_l1Cur w0 W g f0 f1 f2) (h : IsS_l1Cur w0 W g f0 f1 f2 → IsS_l1Cur w0 W' g f0' f1' f2' := by intro h_; repeat (first | (with_reducible first | exact h_ | apply IsS_l1Cur.alloc | apply IsS_l1Cur.drewN | apply IsS_l1Cur.drew | apply IsS_l1Cur.set_1 | apply IsS_l1Cur.set_2 | refine IsS_l1Cur.far ?_ (Aside0.out (by assumption)) _) | exact h_)) : IsS_l1Cur w0 W' g f0' f1' f2' := h x
theorem hi_ {B : Nat} {w W W' : World} (x : Below B w W) (h : Below B w W → Below B w W' := by intro h_; repeat (first | (with_reducible first | exact h_ | apply below_alloc | apply pw_below_drewN | apply below_drew1 | refine below_set ?_ (Aside0.out (by assumption)) | refine below_set ?_ (IsS_l1Cur.ge (Aside0.out (by assumption)))) | exact h_)) : Below B w W' := h x
/-! ### spec_l1New: function 76 -/
def spec_l1New.l0 : Nat → List Int → Int → Int → Option (List Int × Int × Int)
  | 0, _, _, _ => none
  | k + 1, x0, x3, x4 => if x4 < (x0.length : Int) then (if x4 < 4000 then (if 0 ≤ x4 then (spec_l1New.l0 k x0 (Go.bits .and .i64 (wrap64 ((wrap64 ((wrap64 (x3 * 131)) + (wrap64 (rd x0 x4)))) + 7)) 1073741823) (wrap64 (x4 + 1))) else (none)) else (some (x0, 0, x3))) else (some (x0, 0, x3))
def spec_l1New.f (k : Nat) (l0 : List Int) : Option (List Int × Int × Int) := spec_l1New.l0 k l0 (wrap64 (24548 + (l0.length : Int))) 0
theorem spec_l1New.mono_l : ∀ k, (∀ y0 y1 y2, LeO (spec_l1New.l0 k y0 y1 y2) (spec_l1New.l0 (k + 1) y0 y1 y2))
  | 0 => fun _ _ _ r h => by simp [spec_l1New.l0] at h
  | k + 1 => by
    have ih0 := spec_l1New.mono_l k
    · intro y0 y1 y2
      unfold spec_l1New.l0
      exact qah0_
theorem spec_l1New.mono : ∀ a0 k, LeO (spec_l1New.f k a0) (spec_l1New.f (k + 1) a0) := by
  intro a0 k
  have ih0 := spec_l1New.mono_l k
  unfold spec_l1New.f
  exact qah0_
set_option maxHeartbeats 8000000 in
set_option maxRecDepth 100000 in
theorem spec_l1New.calls (k : Nat) (A0 : Option Addr) (c0 : Nat) (l0 : List Int) (r1 : List Int) (r2 : Int) (r3 : Int) (w0 w : World) (hB : Below w0.heap.size w0 w) (hr0 : Kd.C (Kd.int .u8) w0 A0 l0.length l0) (hc0 : l0.length ≤ c0) (h : spec_l1New.f k l0 = some (r1, r2, r3)) :
    Calls Try.prog 76 #[.slice A0 l0.length c0] w fun e w' => ∃ g_ : Nat, e = .returned (.pointer (some ⟨g_, 0, none⟩)) ∧ IsS_l1Cur w0 w' g_ r1 r2 r3 ∧ Below w0.heap.size w0 w' ∧ Below w.heap.size w w' := by
  have hu178 := Try.underlying178
  have HR0 := Aside0.mk hr0
  have HC0 := Aside0.mk hc0
  clear hr0 hc0
  have HBW := Aside0.mk (Below.refl w.heap.size w)
  have HW0 := Aside0.mk hB.size
  have HB := Aside0.mk hB
  clear hB
  have H : (spec_l1New.l0 k l0 (wrap64 (24548 + (l0.length : Int))) 0) = some (r1, r2, r3) := h
  clear h
  have H' := Aside0.mk H
  clear H
  go_enter Try.func76, Try.ntmps76
  go_wp2
  go_loopg [3, 4] k (fun kq v3 v4 w' => ∃ (x3_1 : Int) (x4_1 : Int), v3 = .int .i64 x3_1 ∧ v4 = .int .i64 x4_1 ∧ Aside0 (spec_l1New.l0 kq l0 x3_1 x4_1 = some (r1, r2, r3)) ∧ Aside0 (kq ≤ k) ∧ Aside0 (Below w.heap.size w w') ∧ Aside0 (Below w0.heap.size w0 w'))
  case atStart => exact ⟨(wrap64 (24548 + (l0.length : Int))), (0), (qa2_), (qa2_), H', ⟨Nat.le_refl _⟩, ⟨qa9_⟩, ⟨qa0_⟩⟩
  case round =>
    clear H'
    obtain ⟨x3_1, x4_1, rfl, rfl, HA, HK1, HBW, HB⟩ := hrel
    cases gk with
    | zero => exact absurd HA.out (by simp [spec_l1New.l0])
    | succ k1 =>
      have H := HA.out
      clear HA
      simp only [spec_l1New.l0] at H
      by_cases c2 : x4_1 < (l0.length : Int)
      · rw [if_pos c2] at H
        have c2b0 : decide (x4_1 < (l0.length : Int)) = true := decide_eq_true c2
        clear c2
        by_cases c3 : x4_1 < 4000
        · rw [if_pos c3] at H
          have c3b0 : decide (x4_1 < 4000) = true := decide_eq_true c3
          clear c3
          by_cases c4 : 0 ≤ x4_1
          · rw [if_pos c4] at H
            have c4b0 : decide (0 ≤ x4_1) = true := decide_eq_true c4
            clear c4
            have H' := Aside0.mk H
            clear H
            have p101 : 0 ≤ (x4_1 : Int) := of_decide_eq_true dt_
            have q101 : x4_1 < (l0.length : Int) := of_decide_eq_true dt_
            obtain ⟨ad101, e101, hx101_0⟩ := Kd.at_int HR0.out x4_1 p101 q101
            cases e101
            replace hx101_0 := pw_cell_below HB.out hx101_0
            replace p101 := eq_true p101
            replace q101 := eq_true q101
            go_wp2
            go_roundg k1
            case measure => have := HK1.out; omega
            case rel => exact ⟨(Go.bits .and .i64 (wrap64 ((wrap64 ((wrap64 (x3_1 * 131)) + (wrap64 (rd l0 x4_1)))) + 7)) 1073741823), (wrap64 (x4_1 + 1)), (qa2_), (qa2_), H', ⟨by have := HK1.out; omega⟩, ⟨qa9_⟩, ⟨qa0_⟩⟩
          · rw [if_neg c4] at H
            exact absurd H (by simp)
        · rw [if_neg c3] at H
          have c3b0 : decide (x4_1 < 4000) = false := decide_eq_false c3
          clear c3
          simp only [Option.some.injEq, Prod.mk.injEq] at H
          obtain ⟨rfl, rfl, rfl⟩ := H
          go_wp2_with (first | ((with_reducible refine gate_dst (N := 31) rfl ?_); refine box_event ?hg (N := 31) ?hd (cs := #[.slice A0 l0.length c0, .int .i64 0, .int .i64 x3_1]) (t := 178) ?hr ?_; (case hd => rfl); (case hg => rfl); (case hr => first | (go_simp; done) | (go_simp; rfl)); intro gb102 hg w5 hbox hb; have BK102 := Aside0.mk (hbox); have GW102 := Aside0.mk ((by rw [hg]; exact (below_size (qa9_)) : w.heap.size ≤ gb102)); have GE102 := Aside0.mk ((Nat.le_trans HW0.out (by rw [hg]; exact (below_size (qa9_)) : w.heap.size ≤ gb102) : w0.heap.size ≤ gb102)); replace HBW := Aside0.mk (below_step HBW.out hb); replace HB := Aside0.mk (below_step (qa0_) hb); clear hb hbox hg))
          go_ret
          exact ⟨_, rfl, (show IsS_l1Cur w0 _ gb102 l0 0 x3_1 from ⟨_, _, by (with_reducible repeat (first | refine blk_drewN ?_ _ | refine blk_drew ?_ | refine blk_alloc ?_ _)); exact BK102.out, GE102.out, ⟨HR0.out, HC0.out⟩⟩), by repeat (first | (with_reducible first | exact HB.out | apply below_alloc | apply pw_below_drewN | apply below_drew1 | refine below_set ?_ GE102.out) | exact HB.out), by repeat (first | (with_reducible first | exact HBW.out | apply below_alloc | apply pw_below_drewN | apply below_drew1 | refine below_set ?_ GW102.out) | exact HBW.out)⟩
      · rw [if_neg c2] at H
        have c2b0 : decide (x4_1 < (l0.length : Int)) = false := decide_eq_false c2
        clear c2
        simp only [Option.some.injEq, Prod.mk.injEq] at H
        obtain ⟨rfl, rfl, rfl⟩ := H
        go_wp2_with (first | ((with_reducible refine gate_dst (N := 31) rfl ?_); refine box_event ?hg (N := 31) ?hd (cs := #[.slice A0 l0.length c0, .int .i64 0, .int .i64 x3_1]) (t := 178) ?hr ?_; (case hd => rfl); (case hg => rfl); (case hr => first | (go_simp; done) | (go_simp; rfl)); intro gb103 hg w6 hbox hb; have BK103 := Aside0.mk (hbox); have GW103 := Aside0.mk ((by rw [hg]; exact (below_size (qa9_)) : w.heap.size ≤ gb103)); have GE103 := Aside0.mk ((Nat.le_trans HW0.out (by rw [hg]; exact (below_size (qa9_)) : w.heap.size ≤ gb103) : w0.heap.size ≤ gb103)); replace HBW := Aside0.mk (below_step HBW.out hb); replace HB := Aside0.mk (below_step (qa0_) hb); clear hb hbox hg))
        go_ret
        exact ⟨_, rfl, (show IsS_l1Cur w0 _ gb103 l0 0 x3_1 from ⟨_, _, by (with_reducible repeat (first | refine blk_drewN ?_ _ | refine blk_drew ?_ | refine blk_alloc ?_ _)); exact BK103.out, GE103.out, ⟨HR0.out, HC0.out⟩⟩), by repeat (first | (with_reducible first | exact HB.out | apply below_alloc | apply pw_below_drewN | apply below_drew1 | refine below_set ?_ GE103.out) | exact HB.out), by repeat (first | (with_reducible first | exact HBW.out | apply below_alloc | apply pw_below_drewN | apply below_drew1 | refine below_set ?_ GW103.out) | exact HBW.out)⟩

/-! ### spec_l1Byte: function 146 -/
def spec_l1Byte.f (s0_0 : List Int) (s0_1 : Int) (s0_2 : Int) : Option (Int × Int × Int) := if s0_1 < (s0_0.length : Int) then (if 0 ≤ s0_1 then (some (Go.bits .and .i64 (wrap64 ((Go.bits .and .i64 (Go.bits .xor .i64 ((wrap64 ((wrap64 (s0_2 * 6364136223846793005)) + 1442695040888963407)) / 8589934592) ((wrap64 ((wrap64 (s0_2 * 6364136223846793005)) + 1442695040888963407)) / 35184372088832)) 255) + (wrap64 (rd s0_0 s0_1)))) 255, wrap64 (s0_1 + 1), wrap64 ((wrap64 (s0_2 * 6364136223846793005)) + 1442695040888963407))) else (none)) else (some (Go.bits .and .i64 (Go.bits .xor .i64 ((wrap64 ((wrap64 (s0_2 * 6364136223846793005)) + 1442695040888963407)) / 8589934592) ((wrap64 ((wrap64 (s0_2 * 6364136223846793005)) + 1442695040888963407)) / 35184372088832)) 255, s0_1, wrap64 ((wrap64 (s0_2 * 6364136223846793005)) + 1442695040888963407)))
set_option maxHeartbeats 8000000 in
set_option maxRecDepth 100000 in
theorem spec_l1Byte.calls (g : Nat) (s0_0 : List Int) (s0_1 : Int) (s0_2 : Int) (r1 : Int) (r2 : Int) (r3 : Int) (w0 w : World) (hI : IsS_l1Cur w0 w g s0_0 s0_1 s0_2) (hB : Below w0.heap.size w0 w) (h : spec_l1Byte.f s0_0 s0_1 s0_2 = some (r1, r2, r3)) :
    Calls Try.prog 146 #[.pointer (some ⟨g, 0, none⟩)] w fun e w' => e = .returned (.int .i64 r1) ∧ IsS_l1Cur w0 w' g s0_0 r2 r3 ∧ Below w0.heap.size w0 w' ∧ KeepBut w w' g none := by
  have HI0 := Aside0.mk hI
  have HK := Aside0.mk (KeepBut.refl w g none)
  have HL := Aside0.mk hB.size
  clear hI
  have HW0 := Aside0.mk hB.size
  have HB := Aside0.mk hB
  clear hB
  have H : (if s0_1 < (s0_0.length : Int) then (if 0 ≤ s0_1 then (some (Go.bits .and .i64 (wrap64 ((Go.bits .and .i64 (Go.bits .xor .i64 ((wrap64 ((wrap64 (s0_2 * 6364136223846793005)) + 1442695040888963407)) / 8589934592) ((wrap64 ((wrap64 (s0_2 * 6364136223846793005)) + 1442695040888963407)) / 35184372088832)) 255) + (wrap64 (rd s0_0 s0_1)))) 255, wrap64 (s0_1 + 1), wrap64 ((wrap64 (s0_2 * 6364136223846793005)) + 1442695040888963407))) else (none)) else (some (Go.bits .and .i64 (Go.bits .xor .i64 ((wrap64 ((wrap64 (s0_2 * 6364136223846793005)) + 1442695040888963407)) / 8589934592) ((wrap64 ((wrap64 (s0_2 * 6364136223846793005)) + 1442695040888963407)) / 35184372088832)) 255, s0_1, wrap64 ((wrap64 (s0_2 * 6364136223846793005)) + 1442695040888963407)))) = some (r1, r2, r3) := h
  clear h
  by_cases c2 : s0_1 < (s0_0.length : Int)
  · rw [if_pos c2] at H
    have c2b0 : decide (s0_1 < (s0_0.length : Int)) = true := decide_eq_true c2
    clear c2
    by_cases c3 : 0 ≤ s0_1
    · rw [if_pos c3] at H
      have c3b0 : decide (0 ≤ s0_1) = true := decide_eq_true c3
      clear c3
      simp only [Option.some.injEq, Prod.mk.injEq] at H
      obtain ⟨rfl, rfl, rfl⟩ := H
      obtain ⟨ASz4_0, cSz4_0, HGz4, hgz4, ⟨HSz4_0, HZz4_0⟩⟩ := HI0.out
      have hcz4_0 := cellS178_0 HGz4
      have hcz4_1 := cellS178_1 HGz4
      have hcz4_2 := cellS178_2 HGz4
      have hfz4_1 := blk_frozen HGz4 1
      have hfz4_2 := blk_frozen HGz4 2
      clear HGz4 hgz4
      have p104 : 0 ≤ (s0_1 : Int) := of_decide_eq_true dt_
      have q104 : s0_1 < (s0_0.length : Int) := of_decide_eq_true dt_
      obtain ⟨ad104, e104, hx104_0⟩ := Kd.at_int HSz4_0 s0_1 p104 q104
      cases e104
      have hn104_0 : ad104.block ≠ g := Nat.ne_of_lt (Nat.lt_of_lt_of_le (by have := World.block_lt_of_cell? _ _ hx104_0; first | rwa [add_block] at this | exact this) (IsS_l1Cur.ge HI0.out))
      replace hx104_0 := pw_cell_below HB.out hx104_0
      replace hx104_0 := (cell_far (p := ⟨g, 2, none⟩) (by first | (rw [add_block]; exact hn104_0) | (show (Addr.add _ _).block ≠ _; rw [add_block]; exact hn104_0) | exact hn104_0) (.int .i64 (wrap64 ((wrap64 (s0_2 * 6364136223846793005)) + 1442695040888963407)))).trans hx104_0
      (try have hy104_0 := fun (n_ : Nat) => (show (((w.drewN n_).setCell ⟨g, 2, none⟩ (.int .i64 (wrap64 ((wrap64 (s0_2 * 6364136223846793005)) + 1442695040888963407))))).cell? _ = some _ from hx104_0))
      clear hn104_0
      replace p104 := eq_true p104
      replace q104 := eq_true q104
      go_enter Try.func146, Try.ntmps146
      go_wp2
      repeat (go_quiet (fail); try go_wp2)
      go_ret
      exact ⟨qa7_, qa5_, qa6_, qa1_⟩
    · rw [if_neg c3] at H
      exact absurd H (by simp)
  · rw [if_neg c2] at H
    have c2b0 : decide (s0_1 < (s0_0.length : Int)) = false := decide_eq_false c2
    clear c2
    simp only [Option.some.injEq, Prod.mk.injEq] at H
    obtain ⟨rfl, rfl, rfl⟩ := H
    obtain ⟨ASz5_0, cSz5_0, HGz5, hgz5, ⟨HSz5_0, HZz5_0⟩⟩ := HI0.out
    have hcz5_0 := cellS178_0 HGz5
    have hcz5_1 := cellS178_1 HGz5
    have hcz5_2 := cellS178_2 HGz5
    have hfz5_1 := blk_frozen HGz5 1
    have hfz5_2 := blk_frozen HGz5 2
    clear HGz5 hgz5
    go_enter Try.func146, Try.ntmps146
    go_wp2
    repeat (go_quiet (fail); try go_wp2)
    go_ret
    exact ⟨qa7_, qa5_, qa6_, qa1_⟩

/-! ### spec_l1Below: function 78 -/
def spec_l1Below.f (s0_0 : List Int) (s0_1 : Int) (s0_2 : Int) (a1 : Int) : Option (Int × Int × Int) := if a1 ≤ 0 then (some (0, s0_1, s0_2)) else (if a1 ≤ 256 then ((spec_l1Byte.f s0_0 s0_1 s0_2).bind fun bt105 => (if a1 = 0 then (none) else (some (Int.tmod bt105.1 a1, bt105.2.1, bt105.2.2)))) else ((spec_l1Byte.f s0_0 s0_1 s0_2).bind fun bt108 => ((spec_l1Byte.f s0_0 bt108.2.1 bt108.2.2).bind fun bt111 => ((spec_l1Byte.f s0_0 bt111.2.1 bt111.2.2).bind fun bt114 => ((spec_l1Byte.f s0_0 bt114.2.1 bt114.2.2).bind fun bt117 => (if a1 = 0 then (none) else (some (Int.tmod (wrap64 ((wrap64 ((wrap64 ((wrap64 (bt108.1 * 16777216)) + (wrap64 (bt111.1 * 65536)))) + (wrap64 (bt114.1 * 256)))) + bt117.1)) a1, bt117.2.1, bt117.2.2))))))))
set_option maxHeartbeats 8000000 in
set_option maxRecDepth 100000 in
theorem spec_l1Below.calls (g : Nat) (s0_0 : List Int) (s0_1 : Int) (s0_2 : Int) (a1 : Int) (r1 : Int) (r2 : Int) (r3 : Int) (w0 w : World) (hI : IsS_l1Cur w0 w g s0_0 s0_1 s0_2) (hB : Below w0.heap.size w0 w) (h : spec_l1Below.f s0_0 s0_1 s0_2 a1 = some (r1, r2, r3)) :
    Calls Try.prog 78 #[.pointer (some ⟨g, 0, none⟩), .int .i64 a1] w fun e w' => e = .returned (.int .i64 r1) ∧ IsS_l1Cur w0 w' g s0_0 r2 r3 ∧ Below w0.heap.size w0 w' ∧ KeepBut w w' g none := by
  have HI0 := Aside0.mk hI
  have HK := Aside0.mk (KeepBut.refl w g none)
  have HL := Aside0.mk hB.size
  clear hI
  have HW0 := Aside0.mk hB.size
  have HB := Aside0.mk hB
  clear hB
  have H : (if a1 ≤ 0 then (some (0, s0_1, s0_2)) else (if a1 ≤ 256 then ((spec_l1Byte.f s0_0 s0_1 s0_2).bind fun bt105 => (if a1 = 0 then (none) else (some (Int.tmod bt105.1 a1, bt105.2.1, bt105.2.2)))) else ((spec_l1Byte.f s0_0 s0_1 s0_2).bind fun bt108 => ((spec_l1Byte.f s0_0 bt108.2.1 bt108.2.2).bind fun bt111 => ((spec_l1Byte.f s0_0 bt111.2.1 bt111.2.2).bind fun bt114 => ((spec_l1Byte.f s0_0 bt114.2.1 bt114.2.2).bind fun bt117 => (if a1 = 0 then (none) else (some (Int.tmod (wrap64 ((wrap64 ((wrap64 ((wrap64 (bt108.1 * 16777216)) + (wrap64 (bt111.1 * 65536)))) + (wrap64 (bt114.1 * 256)))) + bt117.1)) a1, bt117.2.1, bt117.2.2))))))))) = some (r1, r2, r3) := h
  clear h
  by_cases c3 : a1 ≤ 0
  · rw [if_pos c3] at H
    have c3b0 : decide (a1 ≤ 0) = true := decide_eq_true c3
    clear c3
    simp only [Option.some.injEq, Prod.mk.injEq] at H
    obtain ⟨rfl, rfl, rfl⟩ := H
    go_enter Try.func78, Try.ntmps78
    go_wp2
    go_ret
    exact ⟨qa7_, qa5_, qa6_, qa1_⟩
  · rw [if_neg c3] at H
    have c3b0 : decide (a1 ≤ 0) = false := decide_eq_false c3
    clear c3
    by_cases c4 : a1 ≤ 256
    · rw [if_pos c4] at H
      have c4b0 : decide (a1 ≤ 256) = true := decide_eq_true c4
      clear c4
      replace H := Option.bind_eq_some_iff.mp H
      obtain ⟨⟨t105, t106, t107⟩, A50, H⟩ := H
      replace H : (if a1 = 0 then (none) else (some (Int.tmod t105 a1, t106, t107))) = some (r1, r2, r3) := H
      have A5 := Aside0.mk A50
      clear A50
      by_cases c6 : a1 = 0
      · rw [if_pos c6] at H
        exact absurd H (by simp)
      · rw [if_neg c6] at H
        have c6b0 : (a1 == 0) = false := beq_eq_false_iff_ne.mpr c6
        have c6b1 : (a1 != 0) = true := bne_iff_ne.mpr c6
        simp only [Option.some.injEq, Prod.mk.injEq] at H
        obtain ⟨rfl, rfl, rfl⟩ := H
        go_enter Try.func78, Try.ntmps78
        go_wp2_with (first | ((with_reducible refine gate_callee (f := 146) rfl ?_); refine goesL_ (some 14) rfl rfl Try.func146 (by kernel_rfl) rfl #[.pointer (some ⟨g, 0, none⟩)] rfl (qa4_) ?_; (with_reducible refine (spec_l1Byte.calls g s0_0 s0_1 s0_2 t105 t106 t107 w0 _ ?side1 ?side2 A5.out).mono ?_); (case side1 => repeat (first | (with_reducible first | exact HI0.out | apply IsS_l1Cur.alloc | apply IsS_l1Cur.drewN | apply IsS_l1Cur.drew | apply IsS_l1Cur.set_1 | apply IsS_l1Cur.set_2) | exact HI0.out)); (case side2 => repeat (first | (with_reducible first | exact HB.out | apply below_alloc | apply pw_below_drewN | apply below_drew1 | refine below_set ?_ (IsS_l1Cur.ge HI0.out)) | exact HB.out)); rintro e w7 ⟨rfl, hi, hb, hk⟩; refine ⟨_, rfl, ?_⟩; replace HK := Aside0.mk (KeepBut.trans (qa1_) hk (.inl rfl)); replace HB := Aside0.mk (hb); replace HI0 := Aside0.mk (hi); (try clear hb); (try clear hb2); (try clear hk); (try clear hi)))
        go_ret
        exact ⟨qa7_, qa5_, qa6_, qa1_⟩
    · rw [if_neg c4] at H
      have c4b0 : decide (a1 ≤ 256) = false := decide_eq_false c4
      clear c4
      replace H := Option.bind_eq_some_iff.mp H
      obtain ⟨⟨t108, t109, t110⟩, A80, H⟩ := H
      replace H : ((spec_l1Byte.f s0_0 t109 t110).bind fun bt111 => ((spec_l1Byte.f s0_0 bt111.2.1 bt111.2.2).bind fun bt114 => ((spec_l1Byte.f s0_0 bt114.2.1 bt114.2.2).bind fun bt117 => (if a1 = 0 then (none) else (some (Int.tmod (wrap64 ((wrap64 ((wrap64 ((wrap64 (t108 * 16777216)) + (wrap64 (bt111.1 * 65536)))) + (wrap64 (bt114.1 * 256)))) + bt117.1)) a1, bt117.2.1, bt117.2.2)))))) = some (r1, r2, r3) := H
      have A8 := Aside0.mk A80
      clear A80
      replace H := Option.bind_eq_some_iff.mp H
      obtain ⟨⟨t111, t112, t113⟩, A90, H⟩ := H
      replace H : ((spec_l1Byte.f s0_0 t112 t113).bind fun bt114 => ((spec_l1Byte.f s0_0 bt114.2.1 bt114.2.2).bind fun bt117 => (if a1 = 0 then (none) else (some (Int.tmod (wrap64 ((wrap64 ((wrap64 ((wrap64 (t108 * 16777216)) + (wrap64 (t111 * 65536)))) + (wrap64 (bt114.1 * 256)))) + bt117.1)) a1, bt117.2.1, bt117.2.2))))) = some (r1, r2, r3) := H
      have A9 := Aside0.mk A90
      clear A90
      replace H := Option.bind_eq_some_iff.mp H
      obtain ⟨⟨t114, t115, t116⟩, A100, H⟩ := H
      replace H : ((spec_l1Byte.f s0_0 t115 t116).bind fun bt117 => (if a1 = 0 then (none) else (some (Int.tmod (wrap64 ((wrap64 ((wrap64 ((wrap64 (t108 * 16777216)) + (wrap64 (t111 * 65536)))) + (wrap64 (t114 * 256)))) + bt117.1)) a1, bt117.2.1, bt117.2.2)))) = some (r1, r2, r3) := H
      have A10 := Aside0.mk A100
      clear A100
      replace H := Option.bind_eq_some_iff.mp H
      obtain ⟨⟨t117, t118, t119⟩, A110, H⟩ := H
      replace H : (if a1 = 0 then (none) else (some (Int.tmod (wrap64 ((wrap64 ((wrap64 ((wrap64 (t108 * 16777216)) + (wrap64 (t111 * 65536)))) + (wrap64 (t114 * 256)))) + t117)) a1, t118, t119))) = some (r1, r2, r3) := H
      have A11 := Aside0.mk A110
      clear A110
      by_cases c12 : a1 = 0
      · rw [if_pos c12] at H
        exact absurd H (by simp)
      · rw [if_neg c12] at H
        have c12b0 : (a1 == 0) = false := beq_eq_false_iff_ne.mpr c12
        have c12b1 : (a1 != 0) = true := bne_iff_ne.mpr c12
        simp only [Option.some.injEq, Prod.mk.injEq] at H
        obtain ⟨rfl, rfl, rfl⟩ := H
        go_enter Try.func78, Try.ntmps78
        go_wp2_with (first | ((with_reducible refine gate_callee (f := 146) rfl ?_); refine goesL_ (some 18) rfl rfl Try.func146 (by kernel_rfl) rfl #[.pointer (some ⟨g, 0, none⟩)] rfl (qa4_) ?_; (with_reducible refine (spec_l1Byte.calls g s0_0 s0_1 s0_2 t108 t109 t110 w0 _ ?side1 ?side2 A8.out).mono ?_); (case side1 => repeat (first | (with_reducible first | exact HI0.out | apply IsS_l1Cur.alloc | apply IsS_l1Cur.drewN | apply IsS_l1Cur.drew | apply IsS_l1Cur.set_1 | apply IsS_l1Cur.set_2) | exact HI0.out)); (case side2 => repeat (first | (with_reducible first | exact HB.out | apply below_alloc | apply pw_below_drewN | apply below_drew1 | refine below_set ?_ (IsS_l1Cur.ge HI0.out)) | exact HB.out)); rintro e w13 ⟨rfl, hi, hb, hk⟩; refine ⟨_, rfl, ?_⟩; replace HK := Aside0.mk (KeepBut.trans (qa1_) hk (.inl rfl)); replace HB := Aside0.mk (hb); replace HI0 := Aside0.mk (hi); (try clear hb); (try clear hb2); (try clear hk); (try clear hi)) | ((with_reducible refine gate_callee (f := 146) rfl ?_); refine goesL_ (some 20) rfl rfl Try.func146 (by kernel_rfl) rfl #[.pointer (some ⟨g, 0, none⟩)] rfl (qa4_) ?_; (with_reducible refine (spec_l1Byte.calls g s0_0 t109 t110 t111 t112 t113 w0 _ ?side1 ?side2 A9.out).mono ?_); (case side1 => repeat (first | (with_reducible first | exact HI0.out | apply IsS_l1Cur.alloc | apply IsS_l1Cur.drewN | apply IsS_l1Cur.drew | apply IsS_l1Cur.set_1 | apply IsS_l1Cur.set_2) | exact HI0.out)); (case side2 => repeat (first | (with_reducible first | exact HB.out | apply below_alloc | apply pw_below_drewN | apply below_drew1 | refine below_set ?_ (IsS_l1Cur.ge HI0.out)) | exact HB.out)); rintro e w14 ⟨rfl, hi, hb, hk⟩; refine ⟨_, rfl, ?_⟩; replace HK := Aside0.mk (KeepBut.trans (qa1_) hk (.inl rfl)); replace HB := Aside0.mk (hb); replace HI0 := Aside0.mk (hi); (try clear hb); (try clear hb2); (try clear hk); (try clear hi)) | ((with_reducible refine gate_callee (f := 146) rfl ?_); refine goesL_ (some 22) rfl rfl Try.func146 (by kernel_rfl) rfl #[.pointer (some ⟨g, 0, none⟩)] rfl (qa4_) ?_; (with_reducible refine (spec_l1Byte.calls g s0_0 t112 t113 t114 t115 t116 w0 _ ?side1 ?side2 A10.out).mono ?_); (case side1 => repeat (first | (with_reducible first | exact HI0.out | apply IsS_l1Cur.alloc | apply IsS_l1Cur.drewN | apply IsS_l1Cur.drew | apply IsS_l1Cur.set_1 | apply IsS_l1Cur.set_2) | exact HI0.out)); (case side2 => repeat (first | (with_reducible first | exact HB.out | apply below_alloc | apply pw_below_drewN | apply below_drew1 | refine below_set ?_ (IsS_l1Cur.ge HI0.out)) | exact HB.out)); rintro e w15 ⟨rfl, hi, hb, hk⟩; refine ⟨_, rfl, ?_⟩; replace HK := Aside0.mk (KeepBut.trans (qa1_) hk (.inl rfl)); replace HB := Aside0.mk (hb); replace HI0 := Aside0.mk (hi); (try clear hb); (try clear hb2); (try clear hk); (try clear hi)) | ((with_reducible refine gate_callee (f := 146) rfl ?_); refine goesL_ (some 24) rfl rfl Try.func146 (by kernel_rfl) rfl #[.pointer (some ⟨g, 0, none⟩)] rfl (qa4_) ?_; (with_reducible refine (spec_l1Byte.calls g s0_0 t115 t116 t117 t118 t119 w0 _ ?side1 ?side2 A11.out).mono ?_); (case side1 => repeat (first | (with_reducible first | exact HI0.out | apply IsS_l1Cur.alloc | apply IsS_l1Cur.drewN | apply IsS_l1Cur.drew | apply IsS_l1Cur.set_1 | apply IsS_l1Cur.set_2) | exact HI0.out)); (case side2 => repeat (first | (with_reducible first | exact HB.out | apply below_alloc | apply pw_below_drewN | apply below_drew1 | refine below_set ?_ (IsS_l1Cur.ge HI0.out)) | exact HB.out)); rintro e w16 ⟨rfl, hi, hb, hk⟩; refine ⟨_, rfl, ?_⟩; replace HK := Aside0.mk (KeepBut.trans (qa1_) hk (.inl rfl)); replace HB := Aside0.mk (hb); replace HI0 := Aside0.mk (hi); (try clear hb); (try clear hb2); (try clear hk); (try clear hi)))
        go_ret
        exact ⟨qa7_, qa5_, qa6_, qa1_⟩

/-! ### spec_l1Pick: function 102 -/
def spec_l1Pick.f (s0_0 : List Int) (s0_1 : Int) (s0_2 : Int) (l1 : List ByteArray) : Option (ByteArray × Int × Int) := (spec_l1Below.f s0_0 s0_1 s0_2 (l1.length : Int)).bind fun bt123 => (if 0 ≤ bt123.1 then (if bt123.1 < (l1.length : Int) then (some (rdOf ByteArray.empty l1 bt123.1, bt123.2.1, bt123.2.2)) else (none)) else (none))
set_option maxHeartbeats 8000000 in
set_option maxRecDepth 100000 in
theorem spec_l1Pick.calls (g : Nat) (s0_0 : List Int) (s0_1 : Int) (s0_2 : Int) (A1 : Option Addr) (c1 : Nat) (l1 : List ByteArray) (r1 : ByteArray) (r2 : Int) (r3 : Int) (w0 w : World) (hI : IsS_l1Cur w0 w g s0_0 s0_1 s0_2) (hB : Below w0.heap.size w0 w) (hr1 : Kd.C Kd.string w A1 l1.length l1) (hc1 : l1.length ≤ c1) (hf1 : ∀ ad, A1 = some ad → 0 < l1.length → ad.block ≠ g) (h : spec_l1Pick.f s0_0 s0_1 s0_2 l1 = some (r1, r2, r3)) :
    Calls Try.prog 102 #[.pointer (some ⟨g, 0, none⟩), .slice A1 l1.length c1] w fun e w' => e = .returned (.string r1) ∧ IsS_l1Cur w0 w' g s0_0 r2 r3 ∧ Below w0.heap.size w0 w' ∧ KeepBut w w' g none := by
  have HR1 := Aside0.mk hr1
  have HC1 := Aside0.mk hc1
  clear hr1 hc1
  have HI0 := Aside0.mk hI
  have HK := Aside0.mk (KeepBut.refl w g none)
  have HL := Aside0.mk hB.size
  clear hI
  have HW0 := Aside0.mk hB.size
  have HB := Aside0.mk hB
  clear hB
  have H : ((spec_l1Below.f s0_0 s0_1 s0_2 (l1.length : Int)).bind fun bt123 => (if 0 ≤ bt123.1 then (if bt123.1 < (l1.length : Int) then (some (rdOf ByteArray.empty l1 bt123.1, bt123.2.1, bt123.2.2)) else (none)) else (none))) = some (r1, r2, r3) := h
  clear h
  replace H := Option.bind_eq_some_iff.mp H
  obtain ⟨⟨t123, t124, t125⟩, A30, H⟩ := H
  replace H : (if 0 ≤ t123 then (if t123 < (l1.length : Int) then (some (rdOf ByteArray.empty l1 t123, t124, t125)) else (none)) else (none)) = some (r1, r2, r3) := H
  have A3 := Aside0.mk A30
  clear A30
  by_cases c4 : 0 ≤ t123
  · rw [if_pos c4] at H
    have c4b0 : decide (0 ≤ t123) = true := decide_eq_true c4
    clear c4
    by_cases c5 : t123 < (l1.length : Int)
    · rw [if_pos c5] at H
      have c5b0 : decide (t123 < (l1.length : Int)) = true := decide_eq_true c5
      clear c5
      simp only [Option.some.injEq, Prod.mk.injEq] at H
      obtain ⟨rfl, rfl, rfl⟩ := H
      go_enter Try.func102, Try.ntmps102
      go_wp2_with (first | ((with_reducible refine gate_callee (f := 78) rfl ?_); refine goesL_ (some 9) rfl rfl Try.func78 (by kernel_rfl) rfl #[.pointer (some ⟨g, 0, none⟩), .int .i64 (l1.length : Int)] rfl (qa4_) ?_; (with_reducible refine (spec_l1Below.calls g s0_0 s0_1 s0_2 (l1.length : Int) t123 t124 t125 w0 _ ?side1 ?side2 A3.out).mono ?_); (case side1 => repeat (first | (with_reducible first | exact HI0.out | apply IsS_l1Cur.alloc | apply IsS_l1Cur.drewN | apply IsS_l1Cur.drew | apply IsS_l1Cur.set_1 | apply IsS_l1Cur.set_2) | exact HI0.out)); (case side2 => repeat (first | (with_reducible first | exact HB.out | apply below_alloc | apply pw_below_drewN | apply below_drew1 | refine below_set ?_ (IsS_l1Cur.ge HI0.out)) | exact HB.out)); rintro e w6 ⟨rfl, hi, hb, hk⟩; refine ⟨_, rfl, ?_⟩; replace HK := Aside0.mk (KeepBut.trans (qa1_) hk (.inl rfl)); replace HB := Aside0.mk (hb); replace HI0 := Aside0.mk (hi); (try clear hb); (try clear hb2); (try clear hk); (try clear hi); have p126 : 0 ≤ (t123 : Int) := of_decide_eq_true dt_; have q126 : t123 < (l1.length : Int) := of_decide_eq_true dt_; obtain ⟨ad126, e126, hx126_0⟩ := Kd.at_string HR1.out t123 p126 q126; cases e126; replace hx126_0 := keep_cell HK.out hx126_0 (by first | (rw [add_block]; exact hf1 _ rfl (by omega)) | exact hf1 _ rfl (by omega) | exact hf1 ad126 rfl (by omega)); replace p126 := eq_true p126; replace q126 := eq_true q126))
      go_ret
      exact ⟨qa7_, qa5_, qa6_, qa1_⟩
    · rw [if_neg c5] at H
      exact absurd H (by simp)
  · rw [if_neg c4] at H
    exact absurd H (by simp)

/-! ### spec_l2DrawText: function 103 -/
def spec_l2DrawText.f (s0_0 : List Int) (s0_1 : Int) (s0_2 : Int) : Option (ByteArray × Int × Int) := (spec_l1Pick.f s0_0 s0_1 s0_2 (([(⟨#[]⟩ : ByteArray), (⟨#[97]⟩ : ByteArray), (⟨#[98]⟩ : ByteArray), (⟨#[107, 32, 49]⟩ : ByteArray), (⟨#[116, 101, 120, 116]⟩ : ByteArray)] : List ByteArray))).bind fun bt130 => (some (bt130.1, bt130.2.1, bt130.2.2))
set_option maxHeartbeats 8000000 in
set_option maxRecDepth 100000 in
theorem spec_l2DrawText.calls (g : Nat) (s0_0 : List Int) (s0_1 : Int) (s0_2 : Int) (r1 : ByteArray) (r2 : Int) (r3 : Int) (w0 w : World) (hI : IsS_l1Cur w0 w g s0_0 s0_1 s0_2) (hB : Below w0.heap.size w0 w) (h : spec_l2DrawText.f s0_0 s0_1 s0_2 = some (r1, r2, r3)) :
    Calls Try.prog 103 #[.pointer (some ⟨g, 0, none⟩)] w fun e w' => e = .returned (.string r1) ∧ IsS_l1Cur w0 w' g s0_0 r2 r3 ∧ Below w0.heap.size w0 w' ∧ KeepBut w w' g none := by
  have HI0 := Aside0.mk hI
  have HK := Aside0.mk (KeepBut.refl w g none)
  have HL := Aside0.mk hB.size
  clear hI
  have HW0 := Aside0.mk hB.size
  have HB := Aside0.mk hB
  clear hB
  have H : ((spec_l1Pick.f s0_0 s0_1 s0_2 (([(⟨#[]⟩ : ByteArray), (⟨#[97]⟩ : ByteArray), (⟨#[98]⟩ : ByteArray), (⟨#[107, 32, 49]⟩ : ByteArray), (⟨#[116, 101, 120, 116]⟩ : ByteArray)] : List ByteArray))).bind fun bt130 => (some (bt130.1, bt130.2.1, bt130.2.2))) = some (r1, r2, r3) := h
  clear h
  obtain ⟨y127, hy127⟩ : ∃ y_ : List ByteArray, y_ = (([(⟨#[]⟩ : ByteArray), (⟨#[97]⟩ : ByteArray), (⟨#[98]⟩ : ByteArray), (⟨#[107, 32, 49]⟩ : ByteArray), (⟨#[116, 101, 120, 116]⟩ : ByteArray)] : List ByteArray)) := ⟨_, rfl⟩
  replace H : ((spec_l1Pick.f s0_0 s0_1 s0_2 y127).bind fun bt130 => (some (bt130.1, bt130.2.1, bt130.2.2))) = some (r1, r2, r3) := by first | (rw [hy127]; with_reducible exact H) | (have H2_ := (Option.bind_some _ _).symm.trans H; rw [hy127]; with_reducible exact H2_) | (have H2_ := (Option.bind_some _ _).symm.trans H; with_reducible exact H2_) | with_reducible exact H | (rw [hy127]; exact H) | exact H
  have Ny127 := Aside0.mk hy127
  clear hy127
  replace H := Option.bind_eq_some_iff.mp H
  obtain ⟨⟨t130, t131, t132⟩, A20, H⟩ := H
  replace H : (some (t130, t131, t132)) = some (r1, r2, r3) := H
  have A2 := Aside0.mk A20
  clear A20
  simp only [Option.some.injEq, Prod.mk.injEq] at H
  obtain ⟨rfl, rfl, rfl⟩ := H
  go_enter Try.func103, Try.ntmps103
  go_wp2_with (first | ((with_reducible refine gate_dst (N := 4) rfl ?_); refine Kd.R_lit Kd.string _ 9 ?hg (N := 4) ?hd (xs := ([(⟨#[]⟩ : ByteArray), (⟨#[97]⟩ : ByteArray), (⟨#[98]⟩ : ByteArray), (⟨#[107, 32, 49]⟩ : ByteArray), (⟨#[116, 101, 120, 116]⟩ : ByteArray)] : List ByteArray)) (inner := [.string (⟨#[]⟩ : ByteArray), .string (⟨#[97]⟩ : ByteArray), .string (⟨#[98]⟩ : ByteArray), .string (⟨#[107, 32, 49]⟩ : ByteArray), .string (⟨#[116, 101, 120, 116]⟩ : ByteArray)]) (ok := fun _ => True) (okp := fun _ => True) ?hr ?hp (fun _ hk => hk) trivial (Below.refl _ _) (Nat.le_refl _) (by simp) ?_; (case hd => rfl); (case hg => rfl); (case hr => first | (go_simp; done) | (go_simp; rfl)); (case hp => exact (Reps.one (show Kd.M Kd.string _ _ _ (⟨#[]⟩ : ByteArray) [.string (⟨#[]⟩ : ByteArray)] from rfl) (Reps.one (show Kd.M Kd.string _ _ _ (⟨#[97]⟩ : ByteArray) [.string (⟨#[97]⟩ : ByteArray)] from rfl) (Reps.one (show Kd.M Kd.string _ _ _ (⟨#[98]⟩ : ByteArray) [.string (⟨#[98]⟩ : ByteArray)] from rfl) (Reps.one (show Kd.M Kd.string _ _ _ (⟨#[107, 32, 49]⟩ : ByteArray) [.string (⟨#[107, 32, 49]⟩ : ByteArray)] from rfl) (Reps.one (show Kd.M Kd.string _ _ _ (⟨#[116, 101, 120, 116]⟩ : ByteArray) [.string (⟨#[116, 101, 120, 116]⟩ : ByteArray)] from rfl) (Reps.none _ _))))))); intro v128 w3 ho4 hb hg_ hnew_; clear hg_ hnew_; (first | rw [← Ny127.out] at ho4 | (simp only [Int.reduceToNat] at ho4; rw [← Ny127.out] at ho4)); have HO129 := Aside0.mk (Kd.R_lower ho4 (keep_size (w := w) (g := g) (row := none) (qa1_))); replace HK := Aside0.mk (KeepBut.trans (qa1_) (KeepBut.of_below hb g none) (.inl rfl)); replace HB := Aside0.mk (below_step (qa6_) hb); replace HI0 := Aside0.mk (IsS_l1Cur.below (qa5_) hb); clear hb ho4; obtain ⟨Ao5, co5, eo5⟩ := Kd.R_slice HO129.out; subst eo5) | ((with_reducible refine gate_callee (f := 102) rfl ?_); refine goesL_ (some 5) rfl rfl Try.func102 (by kernel_rfl) rfl #[.pointer (some ⟨g, 0, none⟩), .slice Ao5 y127.length co5] rfl (qa4_) ?_; (with_reducible refine (spec_l1Pick.calls g s0_0 s0_1 s0_2 _ _ y127 t130 t131 t132 w0 _ ?side1 ?side2 ?side3 ?side4 ?side5 A2.out).mono ?_); (case side1 => repeat (first | (with_reducible first | exact HI0.out | apply IsS_l1Cur.alloc | apply IsS_l1Cur.drewN | apply IsS_l1Cur.drew | apply IsS_l1Cur.set_1 | apply IsS_l1Cur.set_2) | exact HI0.out)); (case side2 => repeat (first | (with_reducible first | exact HB.out | apply below_alloc | apply pw_below_drewN | apply below_drew1 | refine below_set ?_ (IsS_l1Cur.ge HI0.out)) | exact HB.out)); (case side3 => repeat (first | exact (Kd.R_reads' HO129.out).2.2 | (with_reducible refine Kd.C_alloc ?_ _) | (with_reducible refine Kd.C_drewN ?_ _) | (with_reducible refine Kd.C_drew ?_))); (case side4 => exact (Kd.R_reads' HO129.out).2.1); (case side5 => exact far_slice (IsS_l1Cur.own_ne HI0.out HO129.out (by decide))); rintro e w6 ⟨rfl, hi, hb, hk⟩; refine ⟨_, rfl, ?_⟩; replace HO129 := Aside0.mk (Kd.R_mono (Kd.R_keep (IsS_l1Cur.apart (show IsS_l1Cur w0 _ g s0_0 s0_1 s0_2 from by repeat (first | (with_reducible first | exact HI0.out | apply IsS_l1Cur.alloc | apply IsS_l1Cur.drewN | apply IsS_l1Cur.drew | apply IsS_l1Cur.set_1 | apply IsS_l1Cur.set_2) | exact HI0.out)) (by (with_reducible repeat (first | apply Kd.R_alloc | apply Kd.R_drewN | apply Kd.R_drew)); exact HO129.out) (by decide)) hk (fun _ h => h.2)) (fun _ h => h.1)); replace HK := Aside0.mk (KeepBut.trans (qa1_) hk (.inl rfl)); replace HB := Aside0.mk (hb); replace HI0 := Aside0.mk (hi); (try clear hb); (try clear hb2); (try clear hk); (try clear hi)))
  go_ret
  exact ⟨qa7_, qa5_, qa6_, qa1_⟩

/-! ### spec_l1PickInt: function 104 -/
def spec_l1PickInt.f (s0_0 : List Int) (s0_1 : Int) (s0_2 : Int) (l1 : List Int) : Option (Int × Int × Int) := (spec_l1Below.f s0_0 s0_1 s0_2 (l1.length : Int)).bind fun bt133 => (if 0 ≤ bt133.1 then (if bt133.1 < (l1.length : Int) then (some (rd l1 bt133.1, bt133.2.1, bt133.2.2)) else (none)) else (none))
set_option maxHeartbeats 8000000 in
set_option maxRecDepth 100000 in
theorem spec_l1PickInt.calls (g : Nat) (s0_0 : List Int) (s0_1 : Int) (s0_2 : Int) (A1 : Option Addr) (c1 : Nat) (l1 : List Int) (r1 : Int) (r2 : Int) (r3 : Int) (w0 w : World) (hI : IsS_l1Cur w0 w g s0_0 s0_1 s0_2) (hB : Below w0.heap.size w0 w) (hr1 : Kd.C (Kd.int .i64) w A1 l1.length l1) (hc1 : l1.length ≤ c1) (hf1 : ∀ ad, A1 = some ad → 0 < l1.length → ad.block ≠ g) (h : spec_l1PickInt.f s0_0 s0_1 s0_2 l1 = some (r1, r2, r3)) :
    Calls Try.prog 104 #[.pointer (some ⟨g, 0, none⟩), .slice A1 l1.length c1] w fun e w' => e = .returned (.int .i64 r1) ∧ IsS_l1Cur w0 w' g s0_0 r2 r3 ∧ Below w0.heap.size w0 w' ∧ KeepBut w w' g none := by
  have HR1 := Aside0.mk hr1
  have HC1 := Aside0.mk hc1
  clear hr1 hc1
  have HI0 := Aside0.mk hI
  have HK := Aside0.mk (KeepBut.refl w g none)
  have HL := Aside0.mk hB.size
  clear hI
  have HW0 := Aside0.mk hB.size
  have HB := Aside0.mk hB
  clear hB
  have H : ((spec_l1Below.f s0_0 s0_1 s0_2 (l1.length : Int)).bind fun bt133 => (if 0 ≤ bt133.1 then (if bt133.1 < (l1.length : Int) then (some (rd l1 bt133.1, bt133.2.1, bt133.2.2)) else (none)) else (none))) = some (r1, r2, r3) := h
  clear h
  replace H := Option.bind_eq_some_iff.mp H
  obtain ⟨⟨t133, t134, t135⟩, A30, H⟩ := H
  replace H : (if 0 ≤ t133 then (if t133 < (l1.length : Int) then (some (rd l1 t133, t134, t135)) else (none)) else (none)) = some (r1, r2, r3) := H
  have A3 := Aside0.mk A30
  clear A30
  by_cases c4 : 0 ≤ t133
  · rw [if_pos c4] at H
    have c4b0 : decide (0 ≤ t133) = true := decide_eq_true c4
    clear c4
    by_cases c5 : t133 < (l1.length : Int)
    · rw [if_pos c5] at H
      have c5b0 : decide (t133 < (l1.length : Int)) = true := decide_eq_true c5
      clear c5
      simp only [Option.some.injEq, Prod.mk.injEq] at H
      obtain ⟨rfl, rfl, rfl⟩ := H
      go_enter Try.func104, Try.ntmps104
      go_wp2_with (first | ((with_reducible refine gate_callee (f := 78) rfl ?_); refine goesL_ (some 9) rfl rfl Try.func78 (by kernel_rfl) rfl #[.pointer (some ⟨g, 0, none⟩), .int .i64 (l1.length : Int)] rfl (qa4_) ?_; (with_reducible refine (spec_l1Below.calls g s0_0 s0_1 s0_2 (l1.length : Int) t133 t134 t135 w0 _ ?side1 ?side2 A3.out).mono ?_); (case side1 => repeat (first | (with_reducible first | exact HI0.out | apply IsS_l1Cur.alloc | apply IsS_l1Cur.drewN | apply IsS_l1Cur.drew | apply IsS_l1Cur.set_1 | apply IsS_l1Cur.set_2) | exact HI0.out)); (case side2 => repeat (first | (with_reducible first | exact HB.out | apply below_alloc | apply pw_below_drewN | apply below_drew1 | refine below_set ?_ (IsS_l1Cur.ge HI0.out)) | exact HB.out)); rintro e w6 ⟨rfl, hi, hb, hk⟩; refine ⟨_, rfl, ?_⟩; replace HK := Aside0.mk (KeepBut.trans (qa1_) hk (.inl rfl)); replace HB := Aside0.mk (hb); replace HI0 := Aside0.mk (hi); (try clear hb); (try clear hb2); (try clear hk); (try clear hi); have p136 : 0 ≤ (t133 : Int) := of_decide_eq_true dt_; have q136 : t133 < (l1.length : Int) := of_decide_eq_true dt_; obtain ⟨ad136, e136, hx136_0⟩ := Kd.at_int HR1.out t133 p136 q136; cases e136; replace hx136_0 := keep_cell HK.out hx136_0 (by first | (rw [add_block]; exact hf1 _ rfl (by omega)) | exact hf1 _ rfl (by omega) | exact hf1 ad136 rfl (by omega)); replace p136 := eq_true p136; replace q136 := eq_true q136))
      go_ret
      exact ⟨qa7_, qa5_, qa6_, qa1_⟩
    · rw [if_neg c5] at H
      exact absurd H (by simp)
  · rw [if_neg c4] at H
    exact absurd H (by simp)
/-! ### impl_within: function 82 -/
def impl_within.f (a0 : Int) (a1 : Int) (a2 : Int) : Option (Bool) := if a0 ≥ a1 then (some (decide (a0 ≤ a2))) else (some false)
set_option maxHeartbeats 8000000 in
set_option maxRecDepth 100000 in
theorem impl_within.calls (a0 : Int) (a1 : Int) (a2 : Int) (r : Bool) (w : World) (h : impl_within.f a0 a1 a2 = some r) :
    Calls Try.prog 82 #[.int .i64 a0, .int .i64 a1, .int .i64 a2] w fun e w' => e = .returned (.bool r) ∧ Drawn0 w w' := by
  have H : (if a0 ≥ a1 then (some (decide (a0 ≤ a2))) else (some false)) = some r := h
  clear h
  by_cases c4 : a0 ≥ a1
  · rw [if_pos c4] at H
    have c4b0 : decide (a1 ≤ a0) = true := decide_eq_true c4
    clear c4
    obtain rfl := Option.some.inj H
    go_enter Try.func82, Try.ntmps82
    go_wp2
    go_ret
    exact ⟨qa2_, qa3_⟩
  · rw [if_neg c4] at H
    have c4b0 : decide (a1 ≤ a0) = false := decide_eq_false c4
    clear c4
    obtain rfl := Option.some.inj H
    go_enter Try.func82, Try.ntmps82
    go_wp2
    go_ret
    exact ⟨qa2_, qa3_⟩

/-! ### impl_wordsOk: function 106 -/
def impl_wordsOk.l0 : Nat → ByteArray → Int → Option (Bool)
  | 0, _, _ => none
  | k + 1, x0, x3 => if x3 < (x0.size : Int) then (if 0 ≤ x3 then (if (bt x0 x3) < 97 then (if (bt x0 x3) < 48 then (if (bt x0 x3) = 32 then (impl_wordsOk.l0 k x0 (wrap64 (x3 + 1))) else (some false)) else (if (bt x0 x3) > 57 then (if (bt x0 x3) = 32 then (impl_wordsOk.l0 k x0 (wrap64 (x3 + 1))) else (some false)) else (impl_wordsOk.l0 k x0 (wrap64 (x3 + 1))))) else (if (bt x0 x3) > 122 then (if (bt x0 x3) < 48 then (if (bt x0 x3) = 32 then (impl_wordsOk.l0 k x0 (wrap64 (x3 + 1))) else (some false)) else (if (bt x0 x3) > 57 then (if (bt x0 x3) = 32 then (impl_wordsOk.l0 k x0 (wrap64 (x3 + 1))) else (some false)) else (impl_wordsOk.l0 k x0 (wrap64 (x3 + 1))))) else (impl_wordsOk.l0 k x0 (wrap64 (x3 + 1))))) else (none)) else (some (decide ((x0.size : Int) ≤ 30)))
def impl_wordsOk.f (k : Nat) (a0 : ByteArray) : Option (Bool) := impl_wordsOk.l0 k a0 0
theorem impl_wordsOk.mono_l : ∀ k, (∀ y0 y1, LeO (impl_wordsOk.l0 k y0 y1) (impl_wordsOk.l0 (k + 1) y0 y1))
  | 0 => fun _ _ r h => by simp [impl_wordsOk.l0] at h
  | k + 1 => by
    have ih0 := impl_wordsOk.mono_l k
    · intro y0 y1
      unfold impl_wordsOk.l0
      exact qah1_
theorem impl_wordsOk.mono : ∀ a0 k, LeO (impl_wordsOk.f k a0) (impl_wordsOk.f (k + 1) a0) := by
  intro a0 k
  have ih0 := impl_wordsOk.mono_l k
  unfold impl_wordsOk.f
  exact qah1_
set_option maxHeartbeats 8000000 in
set_option maxRecDepth 100000 in
theorem impl_wordsOk.calls (k : Nat) (a0 : ByteArray) (r : Bool) (w : World) (h : impl_wordsOk.f k a0 = some r) :
    Calls Try.prog 106 #[.string a0] w fun e w' => e = .returned (.bool r) ∧ Drawn0 w w' := by
  have H : (impl_wordsOk.l0 k a0 0) = some r := h
  clear h
  have H' := Aside0.mk H
  clear H
  go_enter Try.func106, Try.ntmps106
  go_wp2
  go_loopg [3] k (fun kq v3 w' => ∃ (x3_1 : Int), v3 = .int .i64 x3_1 ∧ Aside0 (impl_wordsOk.l0 kq a0 x3_1 = some r) ∧ Aside0 (kq ≤ k) ∧ Drawn0 w w')
  case atStart => exact ⟨(0), (qa2_), H', ⟨Nat.le_refl _⟩, qa3_⟩
  case round =>
    clear H'
    try clear c1
    obtain ⟨x3_1, rfl, HA, HK1, ⟨m1, rfl⟩⟩ := hrel
    cases gk with
    | zero => exact absurd HA.out (by simp [impl_wordsOk.l0])
    | succ k1 =>
      have H := HA.out
      clear HA
      simp only [impl_wordsOk.l0] at H
      by_cases c2 : x3_1 < (a0.size : Int)
      · rw [if_pos c2] at H
        have c2b0 : decide (x3_1 < (a0.size : Int)) = true := decide_eq_true c2
        clear c2
        by_cases c3 : 0 ≤ x3_1
        · rw [if_pos c3] at H
          have c3b0 : decide (0 ≤ x3_1) = true := decide_eq_true c3
          clear c3
          by_cases c5 : (bt a0 x3_1) < 97
          · rw [if_pos c5] at H
            have c5b0 : decide ((bt a0 x3_1) < 97) = true := decide_eq_true c5
            clear c5
            by_cases c6 : (bt a0 x3_1) < 48
            · rw [if_pos c6] at H
              have c6b0 : decide ((bt a0 x3_1) < 48) = true := decide_eq_true c6
              clear c6
              by_cases c7 : (bt a0 x3_1) = 32
              · rw [if_pos c7] at H
                have c7b0 : ((bt a0 x3_1) == 32) = true := beq_iff_eq.mpr c7
                have c7b1 : ((bt a0 x3_1) != 32) = false := bne_eq_false_iff_eq.mpr c7
                clear c7
                have H' := Aside0.mk H
                clear H
                have p4 : 0 ≤ (x3_1 : Int) := of_decide_eq_true dt_
                have q4 : x3_1 < (a0.size : Int) := of_decide_eq_true dt_
                have hx4 := bt_at a0 x3_1
                replace p4 := eq_true p4
                replace q4 := eq_true q4
                go_wp2
                go_roundg k1
                case measure => have := HK1.out; omega
                case rel => exact ⟨(wrap64 (x3_1 + 1)), (qa2_), H', ⟨by have := HK1.out; omega⟩, qa3_⟩
              · rw [if_neg c7] at H
                have c7b0 : ((bt a0 x3_1) == 32) = false := beq_eq_false_iff_ne.mpr c7
                have c7b1 : ((bt a0 x3_1) != 32) = true := bne_iff_ne.mpr c7
                obtain rfl := Option.some.inj H
                have p4 : 0 ≤ (x3_1 : Int) := of_decide_eq_true dt_
                have q4 : x3_1 < (a0.size : Int) := of_decide_eq_true dt_
                have hx4 := bt_at a0 x3_1
                replace p4 := eq_true p4
                replace q4 := eq_true q4
                go_wp2
                go_ret
                exact ⟨qa2_, qa3_⟩
            · rw [if_neg c6] at H
              have c6b0 : decide ((bt a0 x3_1) < 48) = false := decide_eq_false c6
              clear c6
              by_cases c8 : (bt a0 x3_1) > 57
              · rw [if_pos c8] at H
                have c8b0 : decide (57 < (bt a0 x3_1)) = true := decide_eq_true c8
                clear c8
                by_cases c9 : (bt a0 x3_1) = 32
                · rw [if_pos c9] at H
                  have c9b0 : ((bt a0 x3_1) == 32) = true := beq_iff_eq.mpr c9
                  have c9b1 : ((bt a0 x3_1) != 32) = false := bne_eq_false_iff_eq.mpr c9
                  clear c9
                  have H' := Aside0.mk H
                  clear H
                  have p4 : 0 ≤ (x3_1 : Int) := of_decide_eq_true dt_
                  have q4 : x3_1 < (a0.size : Int) := of_decide_eq_true dt_
                  have hx4 := bt_at a0 x3_1
                  replace p4 := eq_true p4
                  replace q4 := eq_true q4
                  go_wp2
                  go_roundg k1
                  case measure => have := HK1.out; omega
                  case rel => exact ⟨(wrap64 (x3_1 + 1)), (qa2_), H', ⟨by have := HK1.out; omega⟩, qa3_⟩
                · rw [if_neg c9] at H
                  have c9b0 : ((bt a0 x3_1) == 32) = false := beq_eq_false_iff_ne.mpr c9
                  have c9b1 : ((bt a0 x3_1) != 32) = true := bne_iff_ne.mpr c9
                  obtain rfl := Option.some.inj H
                  have p4 : 0 ≤ (x3_1 : Int) := of_decide_eq_true dt_
                  have q4 : x3_1 < (a0.size : Int) := of_decide_eq_true dt_
                  have hx4 := bt_at a0 x3_1
                  replace p4 := eq_true p4
                  replace q4 := eq_true q4
                  go_wp2
                  go_ret
                  exact ⟨qa2_, qa3_⟩
              · rw [if_neg c8] at H
                have c8b0 : decide (57 < (bt a0 x3_1)) = false := decide_eq_false c8
                clear c8
                have H' := Aside0.mk H
                clear H
                have p4 : 0 ≤ (x3_1 : Int) := of_decide_eq_true dt_
                have q4 : x3_1 < (a0.size : Int) := of_decide_eq_true dt_
                have hx4 := bt_at a0 x3_1
                replace p4 := eq_true p4
                replace q4 := eq_true q4
                go_wp2
                go_roundg k1
                case measure => have := HK1.out; omega
                case rel => exact ⟨(wrap64 (x3_1 + 1)), (qa2_), H', ⟨by have := HK1.out; omega⟩, qa3_⟩
          · rw [if_neg c5] at H
            have c5b0 : decide ((bt a0 x3_1) < 97) = false := decide_eq_false c5
            clear c5
            by_cases c10 : (bt a0 x3_1) > 122
            · rw [if_pos c10] at H
              have c10b0 : decide (122 < (bt a0 x3_1)) = true := decide_eq_true c10
              clear c10
              by_cases c11 : (bt a0 x3_1) < 48
              · rw [if_pos c11] at H
                have c11b0 : decide ((bt a0 x3_1) < 48) = true := decide_eq_true c11
                clear c11
                by_cases c12 : (bt a0 x3_1) = 32
                · rw [if_pos c12] at H
                  have c12b0 : ((bt a0 x3_1) == 32) = true := beq_iff_eq.mpr c12
                  have c12b1 : ((bt a0 x3_1) != 32) = false := bne_eq_false_iff_eq.mpr c12
                  clear c12
                  have H' := Aside0.mk H
                  clear H
                  have p4 : 0 ≤ (x3_1 : Int) := of_decide_eq_true dt_
                  have q4 : x3_1 < (a0.size : Int) := of_decide_eq_true dt_
                  have hx4 := bt_at a0 x3_1
                  replace p4 := eq_true p4
                  replace q4 := eq_true q4
                  go_wp2
                  go_roundg k1
                  case measure => have := HK1.out; omega
                  case rel => exact ⟨(wrap64 (x3_1 + 1)), (qa2_), H', ⟨by have := HK1.out; omega⟩, qa3_⟩
                · rw [if_neg c12] at H
                  have c12b0 : ((bt a0 x3_1) == 32) = false := beq_eq_false_iff_ne.mpr c12
                  have c12b1 : ((bt a0 x3_1) != 32) = true := bne_iff_ne.mpr c12
                  obtain rfl := Option.some.inj H
                  have p4 : 0 ≤ (x3_1 : Int) := of_decide_eq_true dt_
                  have q4 : x3_1 < (a0.size : Int) := of_decide_eq_true dt_
                  have hx4 := bt_at a0 x3_1
                  replace p4 := eq_true p4
                  replace q4 := eq_true q4
                  go_wp2
                  go_ret
                  exact ⟨qa2_, qa3_⟩
              · rw [if_neg c11] at H
                have c11b0 : decide ((bt a0 x3_1) < 48) = false := decide_eq_false c11
                clear c11
                by_cases c13 : (bt a0 x3_1) > 57
                · rw [if_pos c13] at H
                  have c13b0 : decide (57 < (bt a0 x3_1)) = true := decide_eq_true c13
                  clear c13
                  by_cases c14 : (bt a0 x3_1) = 32
                  · rw [if_pos c14] at H
                    have c14b0 : ((bt a0 x3_1) == 32) = true := beq_iff_eq.mpr c14
                    have c14b1 : ((bt a0 x3_1) != 32) = false := bne_eq_false_iff_eq.mpr c14
                    clear c14
                    have H' := Aside0.mk H
                    clear H
                    have p4 : 0 ≤ (x3_1 : Int) := of_decide_eq_true dt_
                    have q4 : x3_1 < (a0.size : Int) := of_decide_eq_true dt_
                    have hx4 := bt_at a0 x3_1
                    replace p4 := eq_true p4
                    replace q4 := eq_true q4
                    go_wp2
                    go_roundg k1
                    case measure => have := HK1.out; omega
                    case rel => exact ⟨(wrap64 (x3_1 + 1)), (qa2_), H', ⟨by have := HK1.out; omega⟩, qa3_⟩
                  · rw [if_neg c14] at H
                    have c14b0 : ((bt a0 x3_1) == 32) = false := beq_eq_false_iff_ne.mpr c14
                    have c14b1 : ((bt a0 x3_1) != 32) = true := bne_iff_ne.mpr c14
                    obtain rfl := Option.some.inj H
                    have p4 : 0 ≤ (x3_1 : Int) := of_decide_eq_true dt_
                    have q4 : x3_1 < (a0.size : Int) := of_decide_eq_true dt_
                    have hx4 := bt_at a0 x3_1
                    replace p4 := eq_true p4
                    replace q4 := eq_true q4
                    go_wp2
                    go_ret
                    exact ⟨qa2_, qa3_⟩
                · rw [if_neg c13] at H
                  have c13b0 : decide (57 < (bt a0 x3_1)) = false := decide_eq_false c13
                  clear c13
                  have H' := Aside0.mk H
                  clear H
                  have p4 : 0 ≤ (x3_1 : Int) := of_decide_eq_true dt_
                  have q4 : x3_1 < (a0.size : Int) := of_decide_eq_true dt_
                  have hx4 := bt_at a0 x3_1
                  replace p4 := eq_true p4
                  replace q4 := eq_true q4
                  go_wp2
                  go_roundg k1
                  case measure => have := HK1.out; omega
                  case rel => exact ⟨(wrap64 (x3_1 + 1)), (qa2_), H', ⟨by have := HK1.out; omega⟩, qa3_⟩
            · rw [if_neg c10] at H
              have c10b0 : decide (122 < (bt a0 x3_1)) = false := decide_eq_false c10
              clear c10
              have H' := Aside0.mk H
              clear H
              have p4 : 0 ≤ (x3_1 : Int) := of_decide_eq_true dt_
              have q4 : x3_1 < (a0.size : Int) := of_decide_eq_true dt_
              have hx4 := bt_at a0 x3_1
              replace p4 := eq_true p4
              replace q4 := eq_true q4
              go_wp2
              go_roundg k1
              case measure => have := HK1.out; omega
              case rel => exact ⟨(wrap64 (x3_1 + 1)), (qa2_), H', ⟨by have := HK1.out; omega⟩, qa3_⟩
        · rw [if_neg c3] at H
          exact absurd H (by simp)
      · rw [if_neg c2] at H
        have c2b0 : decide (x3_1 < (a0.size : Int)) = false := decide_eq_false c2
        clear c2
        obtain rfl := Option.some.inj H
        go_wp2
        go_ret
        exact ⟨qa2_, qa3_⟩
/-! ### spec_l1In: function 84 -/
def spec_l1In.f (a0 : Int) (a1 : Int) (a2 : Int) : Option (Bool) := if a0 ≥ a1 then (some (decide (a0 ≤ a2))) else (some false)
set_option maxHeartbeats 8000000 in
set_option maxRecDepth 100000 in
theorem spec_l1In.calls (a0 : Int) (a1 : Int) (a2 : Int) (r : Bool) (w : World) (h : spec_l1In.f a0 a1 a2 = some r) :
    Calls Try.prog 84 #[.int .i64 a0, .int .i64 a1, .int .i64 a2] w fun e w' => e = .returned (.bool r) ∧ Drawn0 w w' := by
  have H : (if a0 ≥ a1 then (some (decide (a0 ≤ a2))) else (some false)) = some r := h
  clear h
  by_cases c4 : a0 ≥ a1
  · rw [if_pos c4] at H
    have c4b0 : decide (a1 ≤ a0) = true := decide_eq_true c4
    clear c4
    obtain rfl := Option.some.inj H
    go_enter Try.func84, Try.ntmps84
    go_wp2
    go_ret
    exact ⟨qa2_, qa3_⟩
  · rw [if_neg c4] at H
    have c4b0 : decide (a1 ≤ a0) = false := decide_eq_false c4
    clear c4
    obtain rfl := Option.some.inj H
    go_enter Try.func84, Try.ntmps84
    go_wp2
    go_ret
    exact ⟨qa2_, qa3_⟩

/-! ### spec_l2Text: function 155 -/
def spec_l2Text.l0 : Nat → ByteArray → Int → Option (Bool)
  | 0, _, _ => none
  | k + 1, x0, x3 => if x3 < (x0.size : Int) then (if 0 ≤ x3 then (if (bt x0 x3) ≥ 97 then (if (bt x0 x3) ≤ 122 then (spec_l2Text.l0 k x0 (wrap64 (x3 + 1))) else (if (bt x0 x3) ≥ 48 then (if (bt x0 x3) ≤ 57 then (spec_l2Text.l0 k x0 (wrap64 (x3 + 1))) else (if ((bt x0 x3) = 32) then (spec_l2Text.l0 k x0 (wrap64 (x3 + 1))) else (some false))) else (if ((bt x0 x3) = 32) then (spec_l2Text.l0 k x0 (wrap64 (x3 + 1))) else (some false)))) else (if (bt x0 x3) ≥ 48 then (if (bt x0 x3) ≤ 57 then (spec_l2Text.l0 k x0 (wrap64 (x3 + 1))) else (if ((bt x0 x3) = 32) then (spec_l2Text.l0 k x0 (wrap64 (x3 + 1))) else (some false))) else (if ((bt x0 x3) = 32) then (spec_l2Text.l0 k x0 (wrap64 (x3 + 1))) else (some false)))) else (none)) else (some (decide ((x0.size : Int) ≤ 30)))
def spec_l2Text.f (k : Nat) (a0 : ByteArray) : Option (Bool) := spec_l2Text.l0 k a0 0
theorem spec_l2Text.mono_l : ∀ k, (∀ y0 y1, LeO (spec_l2Text.l0 k y0 y1) (spec_l2Text.l0 (k + 1) y0 y1))
  | 0 => fun _ _ r h => by simp [spec_l2Text.l0] at h
  | k + 1 => by
    have ih0 := spec_l2Text.mono_l k
    · intro y0 y1
      unfold spec_l2Text.l0
      exact qah1_
theorem spec_l2Text.mono : ∀ a0 k, LeO (spec_l2Text.f k a0) (spec_l2Text.f (k + 1) a0) := by
  intro a0 k
  have ih0 := spec_l2Text.mono_l k
  unfold spec_l2Text.f
  exact qah1_
set_option maxHeartbeats 8000000 in
set_option maxRecDepth 100000 in
theorem spec_l2Text.calls (k : Nat) (a0 : ByteArray) (r : Bool) (w : World) (h : spec_l2Text.f k a0 = some r) :
    Calls Try.prog 155 #[.string a0] w fun e w' => e = .returned (.bool r) ∧ Drawn0 w w' := by
  have H : (spec_l2Text.l0 k a0 0) = some r := h
  clear h
  have H' := Aside0.mk H
  clear H
  go_enter Try.func155, Try.ntmps155
  go_wp2
  go_loopg [3] k (fun kq v3 w' => ∃ (x3_1 : Int), v3 = .int .i64 x3_1 ∧ Aside0 (spec_l2Text.l0 kq a0 x3_1 = some r) ∧ Aside0 (kq ≤ k) ∧ Drawn0 w w')
  case atStart => exact ⟨(0), (qa2_), H', ⟨Nat.le_refl _⟩, qa3_⟩
  case round =>
    clear H'
    try clear c1
    obtain ⟨x3_1, rfl, HA, HK1, ⟨m1, rfl⟩⟩ := hrel
    cases gk with
    | zero => exact absurd HA.out (by simp [spec_l2Text.l0])
    | succ k1 =>
      have H := HA.out
      clear HA
      simp only [spec_l2Text.l0] at H
      by_cases c2 : x3_1 < (a0.size : Int)
      · rw [if_pos c2] at H
        have c2b0 : decide (x3_1 < (a0.size : Int)) = true := decide_eq_true c2
        clear c2
        by_cases c3 : 0 ≤ x3_1
        · rw [if_pos c3] at H
          have c3b0 : decide (0 ≤ x3_1) = true := decide_eq_true c3
          clear c3
          by_cases c5 : (bt a0 x3_1) ≥ 97
          · rw [if_pos c5] at H
            have c5b0 : decide (97 ≤ (bt a0 x3_1)) = true := decide_eq_true c5
            clear c5
            by_cases c6 : (bt a0 x3_1) ≤ 122
            · rw [if_pos c6] at H
              have c6b0 : decide ((bt a0 x3_1) ≤ 122) = true := decide_eq_true c6
              clear c6
              have H' := Aside0.mk H
              clear H
              have p4 : 0 ≤ (x3_1 : Int) := of_decide_eq_true dt_
              have q4 : x3_1 < (a0.size : Int) := of_decide_eq_true dt_
              have hx4 := bt_at a0 x3_1
              replace p4 := eq_true p4
              replace q4 := eq_true q4
              go_wp2
              go_roundg k1
              case measure => have := HK1.out; omega
              case rel => exact ⟨(wrap64 (x3_1 + 1)), (qa2_), H', ⟨by have := HK1.out; omega⟩, qa3_⟩
            · rw [if_neg c6] at H
              have c6b0 : decide ((bt a0 x3_1) ≤ 122) = false := decide_eq_false c6
              clear c6
              by_cases c7 : (bt a0 x3_1) ≥ 48
              · rw [if_pos c7] at H
                have c7b0 : decide (48 ≤ (bt a0 x3_1)) = true := decide_eq_true c7
                clear c7
                by_cases c8 : (bt a0 x3_1) ≤ 57
                · rw [if_pos c8] at H
                  have c8b0 : decide ((bt a0 x3_1) ≤ 57) = true := decide_eq_true c8
                  clear c8
                  have H' := Aside0.mk H
                  clear H
                  have p4 : 0 ≤ (x3_1 : Int) := of_decide_eq_true dt_
                  have q4 : x3_1 < (a0.size : Int) := of_decide_eq_true dt_
                  have hx4 := bt_at a0 x3_1
                  replace p4 := eq_true p4
                  replace q4 := eq_true q4
                  go_wp2
                  go_roundg k1
                  case measure => have := HK1.out; omega
                  case rel => exact ⟨(wrap64 (x3_1 + 1)), (qa2_), H', ⟨by have := HK1.out; omega⟩, qa3_⟩
                · rw [if_neg c8] at H
                  have c8b0 : decide ((bt a0 x3_1) ≤ 57) = false := decide_eq_false c8
                  clear c8
                  by_cases c9 : ((bt a0 x3_1) = 32)
                  · rw [if_pos c9] at H
                    have c9b0 : ((bt a0 x3_1) == 32) = true := beq_iff_eq.mpr c9
                    have c9b1 : ((bt a0 x3_1) != 32) = false := bne_eq_false_iff_eq.mpr c9
                    clear c9
                    have H' := Aside0.mk H
                    clear H
                    have p4 : 0 ≤ (x3_1 : Int) := of_decide_eq_true dt_
                    have q4 : x3_1 < (a0.size : Int) := of_decide_eq_true dt_
                    have hx4 := bt_at a0 x3_1
                    replace p4 := eq_true p4
                    replace q4 := eq_true q4
                    go_wp2
                    go_roundg k1
                    case measure => have := HK1.out; omega
                    case rel => exact ⟨(wrap64 (x3_1 + 1)), (qa2_), H', ⟨by have := HK1.out; omega⟩, qa3_⟩
                  · rw [if_neg c9] at H
                    have c9b0 : ((bt a0 x3_1) == 32) = false := beq_eq_false_iff_ne.mpr c9
                    have c9b1 : ((bt a0 x3_1) != 32) = true := bne_iff_ne.mpr c9
                    obtain rfl := Option.some.inj H
                    have p4 : 0 ≤ (x3_1 : Int) := of_decide_eq_true dt_
                    have q4 : x3_1 < (a0.size : Int) := of_decide_eq_true dt_
                    have hx4 := bt_at a0 x3_1
                    replace p4 := eq_true p4
                    replace q4 := eq_true q4
                    go_wp2
                    go_ret
                    exact ⟨qa2_, qa3_⟩
              · rw [if_neg c7] at H
                have c7b0 : decide (48 ≤ (bt a0 x3_1)) = false := decide_eq_false c7
                clear c7
                by_cases c10 : ((bt a0 x3_1) = 32)
                · rw [if_pos c10] at H
                  have c10b0 : ((bt a0 x3_1) == 32) = true := beq_iff_eq.mpr c10
                  have c10b1 : ((bt a0 x3_1) != 32) = false := bne_eq_false_iff_eq.mpr c10
                  clear c10
                  have H' := Aside0.mk H
                  clear H
                  have p4 : 0 ≤ (x3_1 : Int) := of_decide_eq_true dt_
                  have q4 : x3_1 < (a0.size : Int) := of_decide_eq_true dt_
                  have hx4 := bt_at a0 x3_1
                  replace p4 := eq_true p4
                  replace q4 := eq_true q4
                  go_wp2
                  go_roundg k1
                  case measure => have := HK1.out; omega
                  case rel => exact ⟨(wrap64 (x3_1 + 1)), (qa2_), H', ⟨by have := HK1.out; omega⟩, qa3_⟩
                · rw [if_neg c10] at H
                  have c10b0 : ((bt a0 x3_1) == 32) = false := beq_eq_false_iff_ne.mpr c10
                  have c10b1 : ((bt a0 x3_1) != 32) = true := bne_iff_ne.mpr c10
                  obtain rfl := Option.some.inj H
                  have p4 : 0 ≤ (x3_1 : Int) := of_decide_eq_true dt_
                  have q4 : x3_1 < (a0.size : Int) := of_decide_eq_true dt_
                  have hx4 := bt_at a0 x3_1
                  replace p4 := eq_true p4
                  replace q4 := eq_true q4
                  go_wp2
                  go_ret
                  exact ⟨qa2_, qa3_⟩
          · rw [if_neg c5] at H
            have c5b0 : decide (97 ≤ (bt a0 x3_1)) = false := decide_eq_false c5
            clear c5
            by_cases c11 : (bt a0 x3_1) ≥ 48
            · rw [if_pos c11] at H
              have c11b0 : decide (48 ≤ (bt a0 x3_1)) = true := decide_eq_true c11
              clear c11
              by_cases c12 : (bt a0 x3_1) ≤ 57
              · rw [if_pos c12] at H
                have c12b0 : decide ((bt a0 x3_1) ≤ 57) = true := decide_eq_true c12
                clear c12
                have H' := Aside0.mk H
                clear H
                have p4 : 0 ≤ (x3_1 : Int) := of_decide_eq_true dt_
                have q4 : x3_1 < (a0.size : Int) := of_decide_eq_true dt_
                have hx4 := bt_at a0 x3_1
                replace p4 := eq_true p4
                replace q4 := eq_true q4
                go_wp2
                go_roundg k1
                case measure => have := HK1.out; omega
                case rel => exact ⟨(wrap64 (x3_1 + 1)), (qa2_), H', ⟨by have := HK1.out; omega⟩, qa3_⟩
              · rw [if_neg c12] at H
                have c12b0 : decide ((bt a0 x3_1) ≤ 57) = false := decide_eq_false c12
                clear c12
                by_cases c13 : ((bt a0 x3_1) = 32)
                · rw [if_pos c13] at H
                  have c13b0 : ((bt a0 x3_1) == 32) = true := beq_iff_eq.mpr c13
                  have c13b1 : ((bt a0 x3_1) != 32) = false := bne_eq_false_iff_eq.mpr c13
                  clear c13
                  have H' := Aside0.mk H
                  clear H
                  have p4 : 0 ≤ (x3_1 : Int) := of_decide_eq_true dt_
                  have q4 : x3_1 < (a0.size : Int) := of_decide_eq_true dt_
                  have hx4 := bt_at a0 x3_1
                  replace p4 := eq_true p4
                  replace q4 := eq_true q4
                  go_wp2
                  go_roundg k1
                  case measure => have := HK1.out; omega
                  case rel => exact ⟨(wrap64 (x3_1 + 1)), (qa2_), H', ⟨by have := HK1.out; omega⟩, qa3_⟩
                · rw [if_neg c13] at H
                  have c13b0 : ((bt a0 x3_1) == 32) = false := beq_eq_false_iff_ne.mpr c13
                  have c13b1 : ((bt a0 x3_1) != 32) = true := bne_iff_ne.mpr c13
                  obtain rfl := Option.some.inj H
                  have p4 : 0 ≤ (x3_1 : Int) := of_decide_eq_true dt_
                  have q4 : x3_1 < (a0.size : Int) := of_decide_eq_true dt_
                  have hx4 := bt_at a0 x3_1
                  replace p4 := eq_true p4
                  replace q4 := eq_true q4
                  go_wp2
                  go_ret
                  exact ⟨qa2_, qa3_⟩
            · rw [if_neg c11] at H
              have c11b0 : decide (48 ≤ (bt a0 x3_1)) = false := decide_eq_false c11
              clear c11
              by_cases c14 : ((bt a0 x3_1) = 32)
              · rw [if_pos c14] at H
                have c14b0 : ((bt a0 x3_1) == 32) = true := beq_iff_eq.mpr c14
                have c14b1 : ((bt a0 x3_1) != 32) = false := bne_eq_false_iff_eq.mpr c14
                clear c14
                have H' := Aside0.mk H
                clear H
                have p4 : 0 ≤ (x3_1 : Int) := of_decide_eq_true dt_
                have q4 : x3_1 < (a0.size : Int) := of_decide_eq_true dt_
                have hx4 := bt_at a0 x3_1
                replace p4 := eq_true p4
                replace q4 := eq_true q4
                go_wp2
                go_roundg k1
                case measure => have := HK1.out; omega
                case rel => exact ⟨(wrap64 (x3_1 + 1)), (qa2_), H', ⟨by have := HK1.out; omega⟩, qa3_⟩
              · rw [if_neg c14] at H
                have c14b0 : ((bt a0 x3_1) == 32) = false := beq_eq_false_iff_ne.mpr c14
                have c14b1 : ((bt a0 x3_1) != 32) = true := bne_iff_ne.mpr c14
                obtain rfl := Option.some.inj H
                have p4 : 0 ≤ (x3_1 : Int) := of_decide_eq_true dt_
                have q4 : x3_1 < (a0.size : Int) := of_decide_eq_true dt_
                have hx4 := bt_at a0 x3_1
                replace p4 := eq_true p4
                replace q4 := eq_true q4
                go_wp2
                go_ret
                exact ⟨qa2_, qa3_⟩
        · rw [if_neg c3] at H
          exact absurd H (by simp)
      · rw [if_neg c2] at H
        have c2b0 : decide (x3_1 < (a0.size : Int)) = false := decide_eq_false c2
        clear c2
        obtain rfl := Option.some.inj H
        go_wp2
        go_ret
        exact ⟨qa2_, qa3_⟩
/-! ### spec_l3Item: function 107 -/
def spec_l3Item.f (k : Nat) (a0_0 : Int) (a0_1 : ByteArray) (a0_2 : ByteArray) (a0_3 : Int) (a0_4 : Int) : Option (Bool) := (spec_l2Text.f k a0_1).bind fun t1073 => (if t1073 = true then ((spec_l2Text.f k a0_2).bind fun t1074 => (if t1074 = true then ((spec_l1In.f a0_3 0 3).bind fun t1075 => (if t1075 = true then ((spec_l1In.f a0_4 0 100000).bind fun t1076 => (some t1076)) else (some false))) else (some false))) else (some false))
theorem spec_l3Item.mono : ∀ a0 a1 a2 a3 a4 k, LeO (spec_l3Item.f k a0 a1 a2 a3 a4) (spec_l3Item.f (k + 1) a0 a1 a2 a3 a4) := by
  intro a0 a1 a2 a3 a4 k
  unfold spec_l3Item.f
  repeat' first
      | (with_reducible exact spec_l2Text.mono _ _)
      | (with_reducible exact LeO.refl _)
      | (with_reducible exact LeO.none _)
      | (with_reducible refine LeO.ite ?_ ?_)
      | (with_reducible refine LeO.bind ?_ (fun _ => ?_))
      | exact spec_l2Text.mono _ _
      | exact LeO.none _
      | refine LeO.ite ?_ ?_
      | refine LeO.bind ?_ (fun _ => ?_)
set_option maxHeartbeats 8000000 in
set_option maxRecDepth 100000 in
theorem spec_l3Item.calls (k : Nat) (a0_0 : Int) (a0_1 : ByteArray) (a0_2 : ByteArray) (a0_3 : Int) (a0_4 : Int) (r : Bool) (w : World) (h : spec_l3Item.f k a0_0 a0_1 a0_2 a0_3 a0_4 = some r) :
    Calls Try.prog 107 #[.agg #[.int .i64 a0_0, .string a0_1, .string a0_2, .int .i64 a0_3, .int .i64 a0_4]] w fun e w' => e = .returned (.bool r) ∧ Below w.heap.size w w' := by
  have hu69 := Try.underlying69
  have HB := Aside0.mk (Below.refl w.heap.size w)
  have H : ((spec_l2Text.f k a0_1).bind fun t1073 => (if t1073 = true then ((spec_l2Text.f k a0_2).bind fun t1074 => (if t1074 = true then ((spec_l1In.f a0_3 0 3).bind fun t1075 => (if t1075 = true then ((spec_l1In.f a0_4 0 100000).bind fun t1076 => (some t1076)) else (some false))) else (some false))) else (some false))) = some r := h
  clear h
  replace H := Option.bind_eq_some_iff.mp H
  obtain ⟨t1073, A20, H⟩ := H
  replace H : (if t1073 = true then ((spec_l2Text.f k a0_2).bind fun t1074 => (if t1074 = true then ((spec_l1In.f a0_3 0 3).bind fun t1075 => (if t1075 = true then ((spec_l1In.f a0_4 0 100000).bind fun t1076 => (some t1076)) else (some false))) else (some false))) else (some false)) = some r := H
  have A2 := Aside0.mk A20
  clear A20
  by_cases c3 : t1073 = true
  · subst c3
    have H1 : ((spec_l2Text.f k a0_2).bind fun t1074 => (if t1074 = true then ((spec_l1In.f a0_3 0 3).bind fun t1075 => (if t1075 = true then ((spec_l1In.f a0_4 0 100000).bind fun t1076 => (some t1076)) else (some false))) else (some false))) = some r := by rw [if_pos rfl] at H; exact H
    clear H
    have H := H1
    clear H1
    replace H := Option.bind_eq_some_iff.mp H
    obtain ⟨t1074, A40, H⟩ := H
    replace H : (if t1074 = true then ((spec_l1In.f a0_3 0 3).bind fun t1075 => (if t1075 = true then ((spec_l1In.f a0_4 0 100000).bind fun t1076 => (some t1076)) else (some false))) else (some false)) = some r := H
    have A4 := Aside0.mk A40
    clear A40
    by_cases c5 : t1074 = true
    · subst c5
      have H1 : ((spec_l1In.f a0_3 0 3).bind fun t1075 => (if t1075 = true then ((spec_l1In.f a0_4 0 100000).bind fun t1076 => (some t1076)) else (some false))) = some r := by rw [if_pos rfl] at H; exact H
      clear H
      have H := H1
      clear H1
      replace H := Option.bind_eq_some_iff.mp H
      obtain ⟨t1075, A60, H⟩ := H
      replace H : (if t1075 = true then ((spec_l1In.f a0_4 0 100000).bind fun t1076 => (some t1076)) else (some false)) = some r := H
      have A6 := Aside0.mk A60
      clear A60
      by_cases c7 : t1075 = true
      · subst c7
        have H1 : ((spec_l1In.f a0_4 0 100000).bind fun t1076 => (some t1076)) = some r := by rw [if_pos rfl] at H; exact H
        clear H
        have H := H1
        clear H1
        replace H := Option.bind_eq_some_iff.mp H
        obtain ⟨t1076, A80, H⟩ := H
        replace H : (some t1076) = some r := H
        have A8 := Aside0.mk A80
        clear A80
        obtain rfl := Option.some.inj H
        go_enter Try.func107, Try.ntmps107
        go_wp2_with (first | ((with_reducible refine gate_dst (N := 1) rfl ?_); refine box_event ?hg (N := 1) ?hd (cs := #[.int .i64 a0_0, .string a0_1, .string a0_2, .int .i64 a0_3, .int .i64 a0_4]) (t := 69) ?hr ?_; (case hd => rfl); (case hg => rfl); (case hr => first | (go_simp; done) | (go_simp; rfl)); intro gb1072 hg w9 hbox hb; have BK1072 := Aside0.mk (hbox); have GW1072 := Aside0.mk ((by rw [hg]; exact (below_size (qa0_)) : w.heap.size ≤ gb1072)); have GE1072 := Aside0.mk ((by rw [hg]; exact (below_size (qa0_)) : w.heap.size ≤ gb1072)); replace HB := Aside0.mk (below_step (qa0_) hb); clear hb hbox hg; have hcz10_0 : w9.cell? ⟨gb1072, 0, none⟩ = some (.int .i64 a0_0) := bc_ BK1072 0; have hcz10_1 : w9.cell? ⟨gb1072, 1, none⟩ = some (.string a0_1) := bc_ BK1072 1; have hcz10_2 : w9.cell? ⟨gb1072, 2, none⟩ = some (.string a0_2) := bc_ BK1072 2; have hcz10_3 : w9.cell? ⟨gb1072, 3, none⟩ = some (.int .i64 a0_3) := bc_ BK1072 3; have hcz10_4 : w9.cell? ⟨gb1072, 4, none⟩ = some (.int .i64 a0_4) := bc_ BK1072 4; have hfz10_0 := blk_frozen BK1072.out 0; have hfz10_1 := blk_frozen BK1072.out 1; have hfz10_2 := blk_frozen BK1072.out 2; have hfz10_3 := blk_frozen BK1072.out 3; have hfz10_4 := blk_frozen BK1072.out 4) | ((with_reducible refine gate_callee (f := 155) rfl ?_); refine goesL_ (some 5) rfl rfl Try.func155 (by kernel_rfl) rfl #[.string a0_1] rfl (qa4_) ?_; (with_reducible refine (spec_l2Text.calls k a0_1 true _ A2.out).mono ?_); rintro e w' ⟨rfl, ⟨nd, rfl⟩⟩; refine ⟨_, rfl, ?_⟩) | (go_at_call 155; (with_reducible refine (spec_l2Text.calls k a0_2 true _ A4.out).mono ?_); rintro e w' ⟨rfl, ⟨nd, rfl⟩⟩) | (go_at_call 84; (with_reducible refine (spec_l1In.calls a0_3 0 3 true _ A6.out).mono ?_); rintro e w' ⟨rfl, ⟨nd, rfl⟩⟩) | (go_at_call 84; (with_reducible refine (spec_l1In.calls a0_4 0 100000 t1076 _ A8.out).mono ?_); rintro e w' ⟨rfl, ⟨nd, rfl⟩⟩))
        go_ret
        exact ⟨qa7_, qa11_⟩
      · replace c7 := Bool.eq_false_iff.mpr c7
        subst c7
        have H1 : (some false) = some r := by rw [if_neg (show ¬ (false = true) by decide)] at H; exact H
        clear H
        have H := H1
        clear H1
        obtain rfl := Option.some.inj H
        go_enter Try.func107, Try.ntmps107
        go_wp2_with (first | ((with_reducible refine gate_dst (N := 1) rfl ?_); refine box_event ?hg (N := 1) ?hd (cs := #[.int .i64 a0_0, .string a0_1, .string a0_2, .int .i64 a0_3, .int .i64 a0_4]) (t := 69) ?hr ?_; (case hd => rfl); (case hg => rfl); (case hr => first | (go_simp; done) | (go_simp; rfl)); intro gb1072 hg w11 hbox hb; have BK1072 := Aside0.mk (hbox); have GW1072 := Aside0.mk ((by rw [hg]; exact (below_size (qa0_)) : w.heap.size ≤ gb1072)); have GE1072 := Aside0.mk ((by rw [hg]; exact (below_size (qa0_)) : w.heap.size ≤ gb1072)); replace HB := Aside0.mk (below_step (qa0_) hb); clear hb hbox hg; have hcz12_0 : w11.cell? ⟨gb1072, 0, none⟩ = some (.int .i64 a0_0) := bc_ BK1072 0; have hcz12_1 : w11.cell? ⟨gb1072, 1, none⟩ = some (.string a0_1) := bc_ BK1072 1; have hcz12_2 : w11.cell? ⟨gb1072, 2, none⟩ = some (.string a0_2) := bc_ BK1072 2; have hcz12_3 : w11.cell? ⟨gb1072, 3, none⟩ = some (.int .i64 a0_3) := bc_ BK1072 3; have hcz12_4 : w11.cell? ⟨gb1072, 4, none⟩ = some (.int .i64 a0_4) := bc_ BK1072 4; have hfz12_0 := blk_frozen BK1072.out 0; have hfz12_1 := blk_frozen BK1072.out 1; have hfz12_2 := blk_frozen BK1072.out 2; have hfz12_3 := blk_frozen BK1072.out 3; have hfz12_4 := blk_frozen BK1072.out 4) | ((with_reducible refine gate_callee (f := 155) rfl ?_); refine goesL_ (some 5) rfl rfl Try.func155 (by kernel_rfl) rfl #[.string a0_1] rfl (qa4_) ?_; (with_reducible refine (spec_l2Text.calls k a0_1 true _ A2.out).mono ?_); rintro e w' ⟨rfl, ⟨nd, rfl⟩⟩; refine ⟨_, rfl, ?_⟩) | (go_at_call 155; (with_reducible refine (spec_l2Text.calls k a0_2 true _ A4.out).mono ?_); rintro e w' ⟨rfl, ⟨nd, rfl⟩⟩) | (go_at_call 84; (with_reducible refine (spec_l1In.calls a0_3 0 3 false _ A6.out).mono ?_); rintro e w' ⟨rfl, ⟨nd, rfl⟩⟩))
        go_ret
        exact ⟨qa7_, qa11_⟩
    · replace c5 := Bool.eq_false_iff.mpr c5
      subst c5
      have H1 : (some false) = some r := by rw [if_neg (show ¬ (false = true) by decide)] at H; exact H
      clear H
      have H := H1
      clear H1
      obtain rfl := Option.some.inj H
      go_enter Try.func107, Try.ntmps107
      go_wp2_with (first | ((with_reducible refine gate_dst (N := 1) rfl ?_); refine box_event ?hg (N := 1) ?hd (cs := #[.int .i64 a0_0, .string a0_1, .string a0_2, .int .i64 a0_3, .int .i64 a0_4]) (t := 69) ?hr ?_; (case hd => rfl); (case hg => rfl); (case hr => first | (go_simp; done) | (go_simp; rfl)); intro gb1072 hg w13 hbox hb; have BK1072 := Aside0.mk (hbox); have GW1072 := Aside0.mk ((by rw [hg]; exact (below_size (qa0_)) : w.heap.size ≤ gb1072)); have GE1072 := Aside0.mk ((by rw [hg]; exact (below_size (qa0_)) : w.heap.size ≤ gb1072)); replace HB := Aside0.mk (below_step (qa0_) hb); clear hb hbox hg; have hcz14_0 : w13.cell? ⟨gb1072, 0, none⟩ = some (.int .i64 a0_0) := bc_ BK1072 0; have hcz14_1 : w13.cell? ⟨gb1072, 1, none⟩ = some (.string a0_1) := bc_ BK1072 1; have hcz14_2 : w13.cell? ⟨gb1072, 2, none⟩ = some (.string a0_2) := bc_ BK1072 2; have hcz14_3 : w13.cell? ⟨gb1072, 3, none⟩ = some (.int .i64 a0_3) := bc_ BK1072 3; have hcz14_4 : w13.cell? ⟨gb1072, 4, none⟩ = some (.int .i64 a0_4) := bc_ BK1072 4; have hfz14_0 := blk_frozen BK1072.out 0; have hfz14_1 := blk_frozen BK1072.out 1; have hfz14_2 := blk_frozen BK1072.out 2; have hfz14_3 := blk_frozen BK1072.out 3; have hfz14_4 := blk_frozen BK1072.out 4) | ((with_reducible refine gate_callee (f := 155) rfl ?_); refine goesL_ (some 5) rfl rfl Try.func155 (by kernel_rfl) rfl #[.string a0_1] rfl (qa4_) ?_; (with_reducible refine (spec_l2Text.calls k a0_1 true _ A2.out).mono ?_); rintro e w' ⟨rfl, ⟨nd, rfl⟩⟩; refine ⟨_, rfl, ?_⟩) | (go_at_call 155; (with_reducible refine (spec_l2Text.calls k a0_2 false _ A4.out).mono ?_); rintro e w' ⟨rfl, ⟨nd, rfl⟩⟩))
      go_ret
      exact ⟨qa7_, qa11_⟩
  · replace c3 := Bool.eq_false_iff.mpr c3
    subst c3
    have H1 : (some false) = some r := by rw [if_neg (show ¬ (false = true) by decide)] at H; exact H
    clear H
    have H := H1
    clear H1
    obtain rfl := Option.some.inj H
    go_enter Try.func107, Try.ntmps107
    go_wp2_with (first | ((with_reducible refine gate_dst (N := 1) rfl ?_); refine box_event ?hg (N := 1) ?hd (cs := #[.int .i64 a0_0, .string a0_1, .string a0_2, .int .i64 a0_3, .int .i64 a0_4]) (t := 69) ?hr ?_; (case hd => rfl); (case hg => rfl); (case hr => first | (go_simp; done) | (go_simp; rfl)); intro gb1072 hg w15 hbox hb; have BK1072 := Aside0.mk (hbox); have GW1072 := Aside0.mk ((by rw [hg]; exact (below_size (qa0_)) : w.heap.size ≤ gb1072)); have GE1072 := Aside0.mk ((by rw [hg]; exact (below_size (qa0_)) : w.heap.size ≤ gb1072)); replace HB := Aside0.mk (below_step (qa0_) hb); clear hb hbox hg; have hcz16_0 : w15.cell? ⟨gb1072, 0, none⟩ = some (.int .i64 a0_0) := bc_ BK1072 0; have hcz16_1 : w15.cell? ⟨gb1072, 1, none⟩ = some (.string a0_1) := bc_ BK1072 1; have hcz16_2 : w15.cell? ⟨gb1072, 2, none⟩ = some (.string a0_2) := bc_ BK1072 2; have hcz16_3 : w15.cell? ⟨gb1072, 3, none⟩ = some (.int .i64 a0_3) := bc_ BK1072 3; have hcz16_4 : w15.cell? ⟨gb1072, 4, none⟩ = some (.int .i64 a0_4) := bc_ BK1072 4; have hfz16_0 := blk_frozen BK1072.out 0; have hfz16_1 := blk_frozen BK1072.out 1; have hfz16_2 := blk_frozen BK1072.out 2; have hfz16_3 := blk_frozen BK1072.out 3; have hfz16_4 := blk_frozen BK1072.out 4) | ((with_reducible refine gate_callee (f := 155) rfl ?_); refine goesL_ (some 5) rfl rfl Try.func155 (by kernel_rfl) rfl #[.string a0_1] rfl (qa4_) ?_; (with_reducible refine (spec_l2Text.calls k a0_1 false _ A2.out).mono ?_); rintro e w' ⟨rfl, ⟨nd, rfl⟩⟩; refine ⟨_, rfl, ?_⟩))
    go_ret
    exact ⟨qa7_, qa11_⟩
/-! ### spec_RowOk: function 45 -/
abbrev spec_RowOk.m0 : Array Bool := #[f_,f_,f_,f_,f_,f_,f_,f_,f_,f_,f_,f_,f_,f_,f_,f_,f_,f_,f_,f_,f_,f_,f_,f_,f_,f_,f_,f_,f_,f_,f_,f_,f_,f_,f_,f_,f_,f_,f_,f_,f_,f_]
abbrev spec_RowOk.m1 : Array Bool := #[t_,f_,f_,f_,f_,f_,f_,f_,f_,f_,f_,f_,f_,f_,f_,f_,f_,f_,f_,f_,f_,f_,f_,f_,f_,f_,f_,f_,f_,f_,f_,f_,f_,f_,f_,f_,f_,f_,f_,f_,f_,f_]
abbrev spec_RowOk.m2 : Array Bool := #[t_,f_,t_,f_,f_,f_,f_,f_,f_,f_,f_,f_,f_,f_,f_,f_,f_,f_,f_,f_,f_,f_,f_,f_,f_,f_,f_,f_,f_,f_,f_,f_,f_,f_,f_,f_,f_,f_,f_,f_,f_,f_]
abbrev spec_RowOk.m3 : Array Bool := #[t_,t_,t_,f_,f_,f_,f_,f_,f_,f_,f_,f_,f_,f_,f_,f_,f_,f_,f_,f_,f_,f_,f_,f_,f_,f_,f_,f_,f_,f_,f_,f_,f_,f_,f_,f_,f_,f_,f_,f_,f_,f_]
abbrev spec_RowOk.m4 : Array Bool := #[t_,t_,t_,t_,f_,f_,f_,f_,f_,f_,f_,f_,f_,f_,f_,f_,f_,f_,f_,f_,f_,f_,f_,f_,f_,f_,f_,f_,f_,f_,f_,f_,f_,f_,f_,f_,f_,f_,f_,f_,f_,f_]
abbrev spec_RowOk.m5 : Array Bool := #[t_,t_,t_,t_,t_,f_,f_,f_,f_,f_,f_,f_,f_,f_,f_,f_,f_,f_,f_,f_,f_,f_,f_,f_,f_,f_,f_,f_,f_,f_,f_,f_,f_,f_,f_,f_,f_,f_,f_,f_,f_,f_]
abbrev spec_RowOk.m6 : Array Bool := #[t_,t_,t_,t_,t_,t_,f_,f_,f_,f_,f_,f_,f_,f_,f_,f_,f_,f_,f_,f_,f_,f_,f_,f_,f_,f_,f_,f_,f_,f_,f_,f_,f_,f_,f_,f_,f_,f_,f_,f_,f_,f_]
abbrev spec_RowOk.m7 : Array Bool := #[t_,t_,t_,t_,t_,t_,t_,f_,f_,f_,f_,f_,f_,f_,f_,f_,f_,f_,f_,f_,f_,f_,f_,f_,f_,f_,f_,f_,f_,f_,f_,f_,f_,f_,f_,f_,f_,f_,f_,f_,f_,f_]
abbrev spec_RowOk.m8 : Array Bool := #[t_,t_,t_,t_,t_,t_,t_,t_,f_,f_,f_,f_,f_,f_,f_,f_,f_,f_,f_,f_,f_,f_,f_,f_,f_,f_,f_,f_,f_,f_,f_,f_,f_,f_,f_,f_,f_,f_,f_,f_,f_,f_]
abbrev spec_RowOk.m9 : Array Bool := #[t_,t_,t_,t_,t_,t_,t_,t_,t_,f_,f_,f_,f_,f_,f_,f_,f_,f_,f_,f_,f_,f_,f_,f_,f_,f_,f_,f_,f_,f_,f_,f_,f_,f_,f_,f_,f_,f_,f_,f_,f_,f_]
abbrev spec_RowOk.m10 : Array Bool := #[t_,t_,t_,t_,t_,t_,t_,t_,t_,f_,t_,f_,f_,f_,f_,f_,f_,f_,f_,f_,f_,f_,f_,f_,f_,f_,f_,f_,f_,f_,f_,f_,f_,f_,f_,f_,f_,f_,f_,f_,f_,f_]
abbrev spec_RowOk.m11 : Array Bool := #[t_,t_,t_,t_,t_,t_,t_,t_,t_,f_,t_,f_,f_,f_,t_,f_,f_,f_,f_,f_,f_,f_,f_,f_,f_,f_,f_,f_,f_,f_,f_,f_,f_,f_,f_,f_,f_,f_,f_,f_,f_,f_]
abbrev spec_RowOk.m12 : Array Bool := #[t_,t_,t_,t_,t_,t_,t_,t_,t_,f_,t_,f_,f_,f_,t_,f_,t_,f_,f_,f_,f_,f_,f_,f_,f_,f_,f_,f_,f_,f_,f_,f_,f_,f_,f_,f_,f_,f_,f_,f_,f_,f_]
abbrev spec_RowOk.m13 : Array Bool := #[t_,t_,t_,t_,t_,t_,t_,t_,t_,t_,t_,f_,f_,f_,t_,f_,t_,f_,f_,f_,f_,f_,f_,f_,f_,f_,f_,f_,f_,f_,f_,f_,f_,f_,f_,f_,f_,f_,f_,f_,f_,f_]
abbrev spec_RowOk.m14 : Array Bool := #[t_,t_,t_,t_,t_,t_,t_,t_,t_,t_,t_,t_,f_,f_,t_,f_,t_,f_,f_,f_,f_,f_,f_,f_,f_,f_,f_,f_,f_,f_,f_,f_,f_,f_,f_,f_,f_,f_,f_,f_,f_,f_]
abbrev spec_RowOk.m15 : Array Bool := #[t_,t_,t_,t_,t_,t_,t_,t_,t_,t_,t_,t_,t_,f_,t_,f_,t_,f_,f_,f_,f_,f_,f_,f_,f_,f_,f_,f_,f_,f_,f_,f_,f_,f_,f_,f_,f_,f_,f_,f_,f_,f_]
abbrev spec_RowOk.m16 : Array Bool := #[t_,t_,t_,t_,t_,t_,t_,t_,t_,t_,t_,t_,t_,t_,t_,f_,t_,f_,f_,f_,f_,f_,f_,f_,f_,f_,f_,f_,f_,f_,f_,f_,f_,f_,f_,f_,f_,f_,f_,f_,f_,f_]
abbrev spec_RowOk.m17 : Array Bool := #[t_,t_,t_,t_,t_,t_,t_,t_,t_,t_,t_,t_,t_,t_,t_,t_,t_,f_,f_,f_,f_,f_,f_,f_,f_,f_,f_,f_,f_,f_,f_,f_,f_,f_,f_,f_,f_,f_,f_,f_,f_,f_]
abbrev spec_RowOk.m18 : Array Bool := #[t_,t_,t_,t_,t_,t_,t_,t_,t_,t_,t_,t_,t_,t_,t_,t_,t_,t_,f_,f_,f_,f_,f_,f_,f_,f_,f_,f_,f_,f_,f_,f_,f_,f_,f_,f_,f_,f_,f_,f_,f_,f_]
abbrev spec_RowOk.m19 : Array Bool := #[t_,t_,t_,t_,t_,t_,t_,t_,t_,t_,t_,t_,t_,t_,t_,t_,t_,t_,t_,f_,f_,f_,f_,f_,f_,f_,f_,f_,f_,f_,f_,f_,f_,f_,f_,f_,f_,f_,f_,f_,f_,f_]
abbrev spec_RowOk.m20 : Array Bool := #[t_,t_,t_,t_,t_,t_,t_,t_,t_,t_,t_,t_,t_,t_,t_,t_,t_,t_,t_,t_,f_,f_,f_,f_,f_,f_,f_,f_,f_,f_,f_,f_,f_,f_,f_,f_,f_,f_,f_,f_,f_,f_]
abbrev spec_RowOk.m21 : Array Bool := #[t_,t_,t_,t_,t_,t_,t_,t_,t_,t_,t_,t_,t_,t_,t_,t_,t_,t_,t_,t_,t_,f_,f_,f_,f_,f_,f_,f_,f_,f_,f_,f_,f_,f_,f_,f_,f_,f_,f_,f_,f_,f_]
abbrev spec_RowOk.m22 : Array Bool := #[t_,t_,t_,t_,t_,t_,t_,t_,t_,t_,t_,t_,t_,t_,t_,t_,t_,t_,t_,t_,t_,t_,f_,f_,f_,f_,f_,f_,f_,f_,f_,f_,f_,f_,f_,f_,f_,f_,f_,f_,f_,f_]
abbrev spec_RowOk.m23 : Array Bool := #[t_,t_,t_,t_,t_,t_,t_,t_,t_,t_,t_,t_,t_,t_,t_,t_,t_,t_,t_,t_,t_,t_,t_,f_,f_,f_,f_,f_,f_,f_,f_,f_,f_,f_,f_,f_,f_,f_,f_,f_,f_,f_]
abbrev spec_RowOk.m24 : Array Bool := #[t_,t_,t_,t_,t_,t_,t_,t_,t_,t_,t_,t_,t_,t_,t_,t_,t_,t_,t_,t_,t_,t_,t_,t_,f_,f_,f_,f_,f_,f_,f_,f_,f_,f_,f_,f_,f_,f_,f_,f_,f_,f_]
abbrev spec_RowOk.m25 : Array Bool := #[t_,t_,t_,t_,t_,t_,t_,t_,t_,t_,t_,t_,t_,t_,t_,t_,t_,t_,t_,t_,t_,t_,t_,t_,t_,f_,f_,f_,f_,f_,f_,f_,f_,f_,f_,f_,f_,f_,f_,f_,f_,f_]
abbrev spec_RowOk.m26 : Array Bool := #[t_,t_,t_,t_,t_,t_,t_,t_,t_,t_,t_,t_,t_,t_,t_,t_,t_,t_,t_,t_,t_,t_,t_,t_,t_,t_,f_,f_,f_,f_,f_,f_,f_,f_,f_,f_,f_,f_,f_,f_,f_,f_]
abbrev spec_RowOk.m27 : Array Bool := #[t_,t_,t_,t_,t_,t_,t_,t_,t_,t_,t_,t_,t_,t_,t_,t_,t_,t_,t_,t_,t_,t_,t_,t_,t_,t_,t_,f_,f_,f_,f_,f_,f_,f_,f_,f_,f_,f_,f_,f_,f_,f_]
abbrev spec_RowOk.m28 : Array Bool := #[t_,t_,t_,t_,t_,t_,t_,t_,t_,t_,t_,t_,t_,t_,t_,t_,t_,t_,t_,t_,t_,t_,t_,t_,t_,t_,t_,t_,t_,t_,t_,t_,t_,t_,t_,t_,f_,f_,f_,f_,f_,f_]
abbrev spec_RowOk.m29 : Array Bool := #[t_,t_,t_,t_,t_,t_,t_,t_,t_,t_,t_,t_,t_,t_,t_,t_,t_,t_,t_,t_,t_,t_,t_,t_,t_,t_,t_,t_,t_,t_,t_,t_,t_,t_,t_,t_,t_,f_,f_,f_,f_,f_]
abbrev spec_RowOk.m30 : Array Bool := #[t_,t_,t_,t_,t_,t_,t_,t_,t_,t_,t_,t_,t_,t_,t_,t_,t_,t_,t_,t_,t_,t_,t_,t_,t_,t_,t_,t_,t_,t_,t_,t_,t_,t_,t_,t_,t_,t_,f_,f_,f_,f_]
abbrev spec_RowOk.m31 : Array Bool := #[t_,t_,t_,t_,t_,t_,t_,t_,t_,t_,t_,t_,t_,t_,t_,t_,t_,t_,t_,t_,t_,t_,t_,t_,t_,t_,t_,t_,t_,t_,t_,t_,t_,t_,t_,t_,t_,t_,t_,f_,f_,f_]
abbrev spec_RowOk.m32 : Array Bool := #[t_,t_,t_,t_,t_,t_,t_,t_,t_,t_,t_,t_,t_,t_,t_,t_,t_,t_,t_,t_,t_,t_,t_,t_,t_,t_,t_,t_,t_,t_,t_,t_,t_,t_,t_,t_,t_,t_,t_,t_,f_,f_]
abbrev spec_RowOk.m33 : Array Bool := #[t_,t_,t_,t_,t_,t_,t_,t_,t_,t_,t_,t_,t_,t_,t_,t_,t_,t_,t_,t_,t_,t_,t_,t_,t_,t_,t_,t_,t_,t_,t_,t_,t_,t_,t_,t_,t_,t_,t_,t_,t_,f_]
abbrev spec_RowOk.m34 : Array Bool := #[t_,t_,t_,t_,t_,t_,t_,t_,t_,t_,t_,t_,t_,t_,t_,t_,t_,t_,t_,t_,t_,t_,t_,t_,t_,t_,t_,t_,t_,t_,t_,t_,t_,t_,t_,t_,t_,t_,t_,t_,t_,t_]
abbrev spec_RowOk.m35 : Array Bool := #[t_,t_,t_,t_,t_,t_,t_,t_,t_,t_,t_,t_,t_,t_,t_,t_,t_,t_,t_,t_,t_,t_,t_,t_,t_,t_,t_,t_,f_,f_,f_,f_,f_,f_,f_,f_,f_,f_,f_,f_,f_,f_]
abbrev spec_RowOk.m36 : Array Bool := #[t_,t_,t_,t_,t_,t_,t_,t_,t_,t_,t_,t_,t_,t_,t_,t_,t_,t_,t_,t_,t_,t_,t_,t_,t_,t_,t_,t_,t_,f_,f_,f_,f_,f_,f_,f_,f_,f_,f_,f_,f_,f_]
abbrev spec_RowOk.m37 : Array Bool := #[t_,t_,t_,t_,t_,t_,t_,t_,t_,t_,t_,t_,t_,t_,t_,t_,t_,t_,t_,t_,t_,t_,t_,t_,t_,t_,t_,t_,t_,t_,f_,f_,f_,f_,f_,f_,f_,f_,f_,f_,f_,f_]
abbrev spec_RowOk.m38 : Array Bool := #[t_,t_,t_,t_,t_,t_,t_,t_,t_,t_,t_,t_,t_,t_,t_,t_,t_,t_,t_,t_,t_,t_,t_,t_,t_,t_,t_,t_,t_,t_,t_,f_,f_,f_,f_,f_,f_,f_,f_,f_,f_,f_]
abbrev spec_RowOk.m39 : Array Bool := #[t_,t_,t_,t_,t_,t_,t_,t_,t_,t_,t_,t_,t_,t_,t_,t_,t_,t_,t_,t_,t_,t_,t_,t_,t_,t_,t_,t_,t_,t_,t_,t_,f_,f_,f_,f_,f_,f_,f_,f_,f_,f_]
abbrev spec_RowOk.m40 : Array Bool := #[t_,t_,t_,t_,t_,t_,t_,t_,t_,t_,t_,t_,t_,t_,t_,t_,t_,t_,t_,t_,t_,t_,t_,t_,t_,t_,t_,t_,t_,t_,t_,t_,t_,f_,f_,f_,f_,f_,f_,f_,f_,f_]
abbrev spec_RowOk.m41 : Array Bool := #[t_,t_,t_,t_,t_,t_,t_,t_,t_,t_,t_,t_,t_,t_,t_,t_,t_,t_,t_,t_,t_,t_,t_,t_,t_,t_,t_,t_,t_,t_,t_,t_,t_,t_,f_,f_,f_,f_,f_,f_,f_,f_]
abbrev spec_RowOk.m42 : Array Bool := #[t_,t_,t_,t_,t_,t_,t_,t_,t_,t_,t_,t_,t_,t_,t_,t_,t_,t_,t_,t_,t_,t_,t_,t_,t_,t_,t_,t_,t_,t_,t_,t_,t_,t_,t_,f_,f_,f_,f_,f_,f_,f_]
mutual
def spec_RowOk.j3 : Nat → Int → Int → List (S_Item) → Option (Bool)
 | 0, _, _, _ => none
 | k + 1, x1078000, x1078001, x1078002 => (spec_l1In.f x1078000 0 x1078001).bind fun t1084 => (if t1084 = true then (if x1078001 ≤ 100000 then (some (decide ((x1078002.length : Int) ≤ 80))) else (some false)) else (some false))
def spec_RowOk.l0 : Nat → Int → Int → Int → List (S_Item) → Option (Bool)
 | 0, _, _, _, _ => none
 | k + 1, x3, x1078000, x1078001, x1078002 => if x3 < (x1078002.length : Int) then (spec_RowOk.j1 k x3 x1078000 x1078001 x1078002) else (spec_RowOk.j3 k x1078000 x1078001 x1078002)
def spec_RowOk.j1 : Nat → Int → Int → Int → List (S_Item) → Option (Bool)
 | 0, _, _, _, _ => none
 | k + 1, x3, x1078000, x1078001, x1078002 => if 0 ≤ x3 then (if x3 < (x1078002.length : Int) then ((spec_l3Item.f k ((rd_Item x1078002 x3).f0) ((rd_Item x1078002 x3).f1) ((rd_Item x1078002 x3).f2) ((rd_Item x1078002 x3).f3) ((rd_Item x1078002 x3).f4)).bind fun t1079 => (if t1079 = true then ((spec_l1In.f ((rd_Item x1078002 x3).f0) x1078000 (wrap64 (x1078001 - 1))).bind fun t1081 => (if t1081 = true then (if x3 > 0 then (if 0 ≤ (wrap64 (x3 - 1)) then (if (wrap64 (x3 - 1)) < (x1078002.length : Int) then (spec_RowOk.j2 k x3 (decide (((rd_Item x1078002 (wrap64 (x3 - 1))).f0) ≥ ((rd_Item x1078002 x3).f0))) x1078000 x1078001 x1078002) else (none)) else (none)) else (spec_RowOk.j2 k x3 false x1078000 x1078001 x1078002)) else (spec_RowOk.j2 k x3 true x1078000 x1078001 x1078002))) else (spec_RowOk.j2 k x3 true x1078000 x1078001 x1078002))) else (none)) else (none)
def spec_RowOk.j2 : Nat → Int → Bool → Int → Int → List (S_Item) → Option (Bool)
 | 0, _, _, _, _, _ => none
 | k + 1, x3, x52, x1078000, x1078001, x1078002 => if x52 = true then (some false) else (spec_RowOk.l0 k (wrap64 (x3 + 1)) x1078000 x1078001 x1078002)
end
def spec_RowOk.f (k : Nat) (a0_0 : Int) (a0_1 : Int) (l0_2 : List (S_Item)) : Option (Bool) := spec_RowOk.l0 k 0 a0_0 a0_1 l0_2
theorem spec_RowOk.mono_l : ∀ k, (∀ y0 y1 y2, LeO (spec_RowOk.j3 k y0 y1 y2) (spec_RowOk.j3 (k + 1) y0 y1 y2)) ∧ (∀ y0 y1 y2 y3, LeO (spec_RowOk.l0 k y0 y1 y2 y3) (spec_RowOk.l0 (k + 1) y0 y1 y2 y3)) ∧ (∀ y0 y1 y2 y3, LeO (spec_RowOk.j1 k y0 y1 y2 y3) (spec_RowOk.j1 (k + 1) y0 y1 y2 y3)) ∧ (∀ y0 y1 y2 y3 y4, LeO (spec_RowOk.j2 k y0 y1 y2 y3 y4) (spec_RowOk.j2 (k + 1) y0 y1 y2 y3 y4))
 | 0 => ⟨fun _ _ _ r h => by simp [spec_RowOk.j3] at h, fun _ _ _ _ r h => by simp [spec_RowOk.l0] at h, fun _ _ _ _ r h => by simp [spec_RowOk.j1] at h, fun _ _ _ _ _ r h => by simp [spec_RowOk.j2] at h⟩
 | k + 1 => by
  obtain ⟨ih0, ih1, ih2, ih3⟩ := spec_RowOk.mono_l k
  refine ⟨?_, ?_, ?_, ?_⟩
  ·
   intro y0 y1 y2
   unfold spec_RowOk.j3
   exact qah2_
  ·
   intro y0 y1 y2 y3
   unfold spec_RowOk.l0
   exact qah2_
  ·
   intro y0 y1 y2 y3
   unfold spec_RowOk.j1
   exact qah2_
  ·
   intro y0 y1 y2 y3 y4
   unfold spec_RowOk.j2
   exact qah2_
theorem spec_RowOk.mono : ∀ a0 a1 a2 k, LeO (spec_RowOk.f k a0 a1 a2) (spec_RowOk.f (k + 1) a0 a1 a2) := by
 intro a0 a1 a2 k
 obtain ⟨ih0, ih1, ih2, ih3⟩ := spec_RowOk.mono_l k
 unfold spec_RowOk.f
 exact qah2_
def spec_RowOk.T4 : Bool × List (List Nat × List Nat) := (true, [([], []), ([0], [0]), ([], []), ([1, 2], [1, 2]), ([3], [3]), ([4], [4]), ([5], [5]), ([6, 5], [6]), ([7], [7]), ([8, 7], [7, 8]), ([7], [7]), ([9, 10, 7], [7, 9, 10]), ([11, 7], [7, 11]), ([12, 7], [7, 12]), ([7], [7]), ([14, 7], [7, 14]), ([7], [7]), ([16, 7], [7, 16]), ([17, 7], [7, 17]), ([13, 15, 18, 7, 7], [7, 13, 15, 18]), ([19, 7], [7, 19]), ([7, 20], [7, 20]), ([21, 19], [21]), ([22], [22]), ([23, 22], [22, 23]), ([24, 22, 22], [22, 24]), ([25], [25]), ([26, 25], [25, 26]), ([25], [25]), ([28, 25], [25, 28]), ([27, 29, 25], [25, 27, 29]), ([30, 25], [25, 30]), ([31, 25], [25, 31]), ([25], [25]), ([33, 25], [25, 33]), ([25], [25]), ([34, 35, 25], [25, 34, 35]), ([36, 25], [25, 36]), ([37, 25], [25, 37]), ([32, 38, 25], [25, 32, 38]), ([25, 39, 22], [22, 25, 39]), ([22, 40], [22, 40])])
def spec_RowOk.B4 : List Nat := [0, 1, 0, 7, 15, 31, 63, 127, 255, 511, 255, 2047, 4095, 8191, 255, 16639, 255, 65791, 196863, 524287, 1048575, 2097151, 4194303, 8388607, 16777215, 33554431, 67108863, 134217727, 67108863, 335544319, 1073741823, 2147483647, 4294967295, 67108863, 8657043455, 67108863, 60196651007, 128916127743, 266355081215, 549755813887, 1099511627775, 2199023255551]
theorem spec_RowOk.tab4 : rtab .any (opsOf Try.f45 4) = spec_RowOk.T4 := by kernel_rfl
theorem spec_RowOk.bits4 : waitsOk spec_RowOk.T4.2 spec_RowOk.B4 = true := by kernel_rfl
set_option maxHeartbeats 8000000 in
set_option maxRecDepth 100000 in
theorem spec_RowOk.calls (k : Nat) (a0_0 : Int) (a0_1 : Int) (A0_2 : Option Addr) (c0_2 : Nat) (l0_2 : List (S_Item)) (r : Bool) (w : World) (hr0_2 : Kd.C k_Item w A0_2 l0_2.length l0_2) (hc0_2 : l0_2.length ≤ c0_2) (h : spec_RowOk.f k a0_0 a0_1 l0_2 = some r) :
 Calls Try.prog 45 #[.agg #[.int .i64 a0_0, .int .i64 a0_1, .slice A0_2 l0_2.length c0_2]] w fun e w' => e = .returned (.bool r) ∧ Below w.heap.size w w' := by
 have hu57 := Try.underlying57
 have hu69 := Try.underlying69
 have HR0_2 := Aside0.mk hr0_2
 have HC0_2 := Aside0.mk hc0_2
 clear hr0_2 hc0_2
 have HB := Aside0.mk (Below.refl w.heap.size w)
 have H : (spec_RowOk.l0 k 0 a0_0 a0_1 l0_2) = some r := h
 clear h
 have HC2 := Aside0.mk H
 clear H
 go_enter Try.func45, Try.ntmps45
 go_upto_block 0 with (first | ((with_reducible refine gate_dst (N := 1) rfl ?_); (try (refine gate_guard (by rfl) ?_; dsimp only)); refine box_event ?hg (N := 1) ?hd (cs := #[.int .i64 a0_0, .int .i64 a0_1, .slice A0_2 l0_2.length c0_2]) (t := 57) ?hr ?_; (case hd => rfl); (case hg => rfl); (case hr => first | (go_simp; done) | (go_simp; rfl)); intro gb1077 hg w3 hbox hb; have BK1077 := Aside0.mk (hbox); have GW1077 := cz_ HB hg; have GE1077 := cz_ HB hg; replace HB := ch_ HB hb; clear hb hbox hg))
 (try simp only [Act.put, List.setIfInBounds_toArray, List.set_cons_zero, List.set_cons_succ])
 go_cut [] (fun wc => ∃ (kq : Nat), Aside0 (spec_RowOk.j3 kq a0_0 a0_1 l0_2 = some r) ∧ Aside0 (kq ≤ k) ∧ Aside0 (wc.heap[gb1077]? = some (.cells #[.int .i64 a0_0, .int .i64 a0_1, (.slice A0_2 l0_2.length c0_2)] 57 (0, 0))) ∧ Aside0 (Below w.heap.size w wc))
 case first =>
  have H := HC2.out
  clear HC2
  have H' := Aside0.mk H
  clear H
  go_wp2
  go_loopg [3] k (fun kq v3 w' => ∃ (x3_1 : Int), v3 = .int .i64 x3_1 ∧ Aside0 (spec_RowOk.l0 kq x3_1 a0_0 a0_1 l0_2 = some r) ∧ Aside0 (kq ≤ k) ∧ Aside0 (w'.heap[gb1077]? = some (.cells #[.int .i64 a0_0, .int .i64 a0_1, (.slice A0_2 l0_2.length c0_2)] 57 (0, 0))) ∧ Aside0 (Below w.heap.size w w'))
  case atStart => exact ⟨(0), (qa2_), H', ⟨Nat.le_refl _⟩, ⟨bq_ BK1077.out⟩, ⟨hb_ HB.out⟩⟩
  case round =>
   clear H'
   try clear p2
   obtain ⟨x3_1, rfl, HA, HK1, BK1077, HB⟩ := hrel
   cases gk with
   | zero => exact absurd HA.out (by simp [spec_RowOk.l0])
   | succ k1 =>
    have H := HA.out
    clear HA
    simp only [spec_RowOk.l0] at H
    have HC4 := Aside0.mk H
    clear H
    have hcz5_0 : wr.cell? ⟨gb1077, 0, none⟩ = some (.int .i64 a0_0) := bc_ BK1077 0
    have hcz5_1 : wr.cell? ⟨gb1077, 1, none⟩ = some (.int .i64 a0_1) := bc_ BK1077 1
    have hcz5_2 : wr.cell? ⟨gb1077, 2, none⟩ = some (.slice A0_2 l0_2.length c0_2) := bc_ BK1077 2
    have hfz5_0 := blk_frozen BK1077.out 0
    have hfz5_1 := blk_frozen BK1077.out 1
    have hfz5_2 := blk_frozen BK1077.out 2
    go_upto_if 8 with (fail)
    go_cut [] (fun wc => ∃ (kq : Nat), Aside0 (spec_RowOk.j1 kq x3_1 a0_0 a0_1 l0_2 = some r) ∧ Aside0 (kq ≤ k1) ∧ Aside0 (wc.heap[gb1077]? = some (.cells #[.int .i64 a0_0, .int .i64 a0_1, (.slice A0_2 l0_2.length c0_2)] 57 (0, 0))) ∧ Aside0 (Below w.heap.size w wc))
    case first =>
     have H := HC4.out
     clear HC4
     by_cases c6 : x3_1 < (l0_2.length : Int)
     ·
      rw [if_pos c6] at H
      have c6b0 : decide (x3_1 < (l0_2.length : Int)) = true := decide_eq_true c6
      clear c6
      (first | rw [c6b0] | (simp only [i64_w, i32_w]; rw [c6b0]) | rw [c6b4] | rw [c6b3] | skip)
      have H' := Aside0.mk H
      clear H
      go_wp2
      go_meet
      case rel => exact ⟨_, H', ⟨by have := HK1.out; first | omega | exact Nat.le_refl _⟩, ⟨bq_ BK1077.out⟩, ⟨hb_ HB.out⟩⟩
     ·
      rw [if_neg c6] at H
      have c6b0 : decide (x3_1 < (l0_2.length : Int)) = false := decide_eq_false c6
      clear c6
      (first | rw [c6b0] | (simp only [i64_w, i32_w]; rw [c6b0]) | rw [c6b4] | rw [c6b3] | skip)
      have H' := Aside0.mk H
      clear H
      go_wp2
      go_meet
      case rel => exact ⟨_, H', ⟨by have := HK1.out; first | omega | exact Nat.le_refl _⟩, ⟨bq_ BK1077.out⟩, ⟨hb_ HB.out⟩⟩
    case rest =>
     clear HC4
     (try clear p2); (try clear hcz5_0); (try clear hcz5_1); (try clear hcz5_2); (try clear hfz5_0); (try clear hfz5_1); (try clear hfz5_2)
     obtain ⟨kq, HA, HJ3, BK1077, HB⟩ := hcut
     cases kq with
     | zero => exact absurd HA.out (by simp [spec_RowOk.j1])
     | succ kj3 =>
      have H := HA.out
      clear HA
      simp only [spec_RowOk.j1] at H
      have HC7 := Aside0.mk H
      clear H
      go_upto_region 4 with (fail)
      go_cut [52] (fun v52 wc => ∃ (kq : Nat) (x52_6 : Bool), v52 = .bool x52_6 ∧ Aside0 (spec_RowOk.j2 kq x3_1 x52_6 a0_0 a0_1 l0_2 = some r) ∧ Aside0 (kq ≤ kj3) ∧ Aside0 (wc.heap[gb1077]? = some (.cells #[.int .i64 a0_0, .int .i64 a0_1, (.slice A0_2 l0_2.length c0_2)] 57 (0, 0))) ∧ Aside0 (Below w.heap.size w wc))
      case first =>
       have H := HC7.out
       clear HC7
       by_cases c8 : 0 ≤ x3_1
       ·
        rw [if_pos c8] at H
        have c8b0 : decide (0 ≤ x3_1) = true := decide_eq_true c8
        clear c8
        (first | rw [c8b0] | (simp only [i64_w, i32_w]; rw [c8b0]) | rw [c8b4] | rw [c8b3] | skip)
        by_cases c9 : x3_1 < (l0_2.length : Int)
        ·
         rw [if_pos c9] at H
         have c9b0 : decide (x3_1 < (l0_2.length : Int)) = true := decide_eq_true c9
         clear c9
         replace H := Option.bind_eq_some_iff.mp H
         obtain ⟨t1079, A100, H⟩ := H
         replace H : (if t1079 = true then ((spec_l1In.f ((rd_Item l0_2 x3_1).f0) a0_0 (wrap64 (a0_1 - 1))).bind fun t1081 => (if t1081 = true then (if x3_1 > 0 then (if 0 ≤ (wrap64 (x3_1 - 1)) then (if (wrap64 (x3_1 - 1)) < (l0_2.length : Int) then (spec_RowOk.j2 kj3 x3_1 (decide (((rd_Item l0_2 (wrap64 (x3_1 - 1))).f0) ≥ ((rd_Item l0_2 x3_1).f0))) a0_0 a0_1 l0_2) else (none)) else (none)) else (spec_RowOk.j2 kj3 x3_1 false a0_0 a0_1 l0_2)) else (spec_RowOk.j2 kj3 x3_1 true a0_0 a0_1 l0_2))) else (spec_RowOk.j2 kj3 x3_1 true a0_0 a0_1 l0_2)) = some r := H
         have A10 := Aside0.mk A100
         clear A100
         by_cases c11 : t1079 = true
         ·
          subst c11
          have H1 : ((spec_l1In.f ((rd_Item l0_2 x3_1).f0) a0_0 (wrap64 (a0_1 - 1))).bind fun t1081 => (if t1081 = true then (if x3_1 > 0 then (if 0 ≤ (wrap64 (x3_1 - 1)) then (if (wrap64 (x3_1 - 1)) < (l0_2.length : Int) then (spec_RowOk.j2 kj3 x3_1 (decide (((rd_Item l0_2 (wrap64 (x3_1 - 1))).f0) ≥ ((rd_Item l0_2 x3_1).f0))) a0_0 a0_1 l0_2) else (none)) else (none)) else (spec_RowOk.j2 kj3 x3_1 false a0_0 a0_1 l0_2)) else (spec_RowOk.j2 kj3 x3_1 true a0_0 a0_1 l0_2))) = some r := by rw [if_pos rfl] at H; exact H
          clear H
          have H := H1
          clear H1
          replace H := Option.bind_eq_some_iff.mp H
          obtain ⟨t1081, A120, H⟩ := H
          replace H : (if t1081 = true then (if x3_1 > 0 then (if 0 ≤ (wrap64 (x3_1 - 1)) then (if (wrap64 (x3_1 - 1)) < (l0_2.length : Int) then (spec_RowOk.j2 kj3 x3_1 (decide (((rd_Item l0_2 (wrap64 (x3_1 - 1))).f0) ≥ ((rd_Item l0_2 x3_1).f0))) a0_0 a0_1 l0_2) else (none)) else (none)) else (spec_RowOk.j2 kj3 x3_1 false a0_0 a0_1 l0_2)) else (spec_RowOk.j2 kj3 x3_1 true a0_0 a0_1 l0_2)) = some r := H
          have A12 := Aside0.mk A120
          clear A120
          by_cases c13 : t1081 = true
          ·
           subst c13
           have H1 : (if x3_1 > 0 then (if 0 ≤ (wrap64 (x3_1 - 1)) then (if (wrap64 (x3_1 - 1)) < (l0_2.length : Int) then (spec_RowOk.j2 kj3 x3_1 (decide (((rd_Item l0_2 (wrap64 (x3_1 - 1))).f0) ≥ ((rd_Item l0_2 x3_1).f0))) a0_0 a0_1 l0_2) else (none)) else (none)) else (spec_RowOk.j2 kj3 x3_1 false a0_0 a0_1 l0_2)) = some r := by rw [if_pos rfl] at H; exact H
           clear H
           have H := H1
           clear H1
           by_cases c14 : x3_1 > 0
           ·
            rw [if_pos c14] at H
            have c14b0 : decide (0 < x3_1) = true := decide_eq_true c14
            clear c14
            obtain ⟨ji15, hji15⟩ : ∃ j_ : Int, (wrap64 (x3_1 - 1)) = j_ := ⟨_, rfl⟩
            replace H : (if 0 ≤ (ji15) then (if (ji15) < (l0_2.length : Int) then (spec_RowOk.j2 kj3 x3_1 (decide (((rd_Item l0_2 (ji15)).f0) ≥ ((rd_Item l0_2 x3_1).f0))) a0_0 a0_1 l0_2) else (none)) else (none)) = some r := by first | (rw [hji15] at H; exact H) | (simp only [hji15] at H ⊢; exact H)
            (try rw [hji15] at A10)
            (try rw [hji15] at A12)
            have hji15w : (IntKind.i64.wrap (x3_1 - 1)) = ji15 := (i64_w _).trans hji15
            by_cases c16 : 0 ≤ (ji15)
            ·
             rw [if_pos c16] at H
             have c16b0 : decide (0 ≤ (ji15)) = true := decide_eq_true c16
             clear c16
             by_cases c17 : (ji15) < (l0_2.length : Int)
             ·
              rw [if_pos c17] at H
              have c17b0 : decide ((ji15) < (l0_2.length : Int)) = true := decide_eq_true c17
              clear c17
              have H' := Aside0.mk H
              clear H
              try go_wp2
              replace BK1077 := Aside0.mk (blk_drew BK1077.out)
              replace HB := Aside0.mk (below_drew1 HB.out)
              have p1078 : 0 ≤ (x3_1 : Int) := of_decide_eq_true dt_
              have q1078 : x3_1 < (l0_2.length : Int) := of_decide_eq_true dt_
              obtain ⟨ad1078, e1078, hx1078_0, hx1078_1, hx1078_2, hx1078_3, hx1078_4⟩ := at_Item HR0_2.out x3_1 p1078 q1078
              have hw1078_4 := hx1078_4
              have hw1078_3 := hx1078_3
              have hw1078_2 := hx1078_2
              have hw1078_1 := hx1078_1
              have hw1078_0 := hx1078_0
              cases e1078
              replace hx1078_0 := hc_ HB hx1078_0
              replace hx1078_1 := hc_ HB hx1078_1
              replace hx1078_2 := hc_ HB hx1078_2
              replace hx1078_3 := hc_ HB hx1078_3
              replace hx1078_4 := hc_ HB hx1078_4
              replace p1078 := eq_true p1078
              replace q1078 := eq_true q1078
              have p1080 : 0 ≤ (x3_1 : Int) := of_decide_eq_true dt_
              have q1080 : x3_1 < (l0_2.length : Int) := of_decide_eq_true dt_
              obtain ⟨ad1080, e1080, hx1080_0, hx1080_1, hx1080_2, hx1080_3, hx1080_4⟩ := at_Item HR0_2.out x3_1 p1080 q1080
              have hw1080_4 := hx1080_4
              have hw1080_3 := hx1080_3
              have hw1080_2 := hx1080_2
              have hw1080_1 := hx1080_1
              have hw1080_0 := hx1080_0
              obtain rfl : ad1078 = ad1080 := (by injection e1080)
              replace hx1080_0 := hc_ HB hx1080_0
              replace hx1080_1 := hc_ HB hx1080_1
              replace hx1080_2 := hc_ HB hx1080_2
              replace hx1080_3 := hc_ HB hx1080_3
              replace hx1080_4 := hc_ HB hx1080_4
              replace p1080 := eq_true p1080
              replace q1080 := eq_true q1080
              have p1082 : 0 ≤ ((ji15) : Int) := of_decide_eq_true dt_
              have q1082 : (ji15) < (l0_2.length : Int) := of_decide_eq_true dt_
              obtain ⟨ad1082, e1082, hx1082_0, hx1082_1, hx1082_2, hx1082_3, hx1082_4⟩ := at_Item HR0_2.out (ji15) p1082 q1082
              have hw1082_4 := hx1082_4
              have hw1082_3 := hx1082_3
              have hw1082_2 := hx1082_2
              have hw1082_1 := hx1082_1
              have hw1082_0 := hx1082_0
              obtain rfl : ad1078 = ad1082 := (by injection e1082)
              replace hx1082_0 := hc_ HB hx1082_0
              replace hx1082_1 := hc_ HB hx1082_1
              replace hx1082_2 := hc_ HB hx1082_2
              replace hx1082_3 := hc_ HB hx1082_3
              replace hx1082_4 := hc_ HB hx1082_4
              replace p1082 := eq_true p1082
              replace q1082 := eq_true q1082
              have p1083 : 0 ≤ (x3_1 : Int) := of_decide_eq_true dt_
              have q1083 : x3_1 < (l0_2.length : Int) := of_decide_eq_true dt_
              obtain ⟨ad1083, e1083, hx1083_0, hx1083_1, hx1083_2, hx1083_3, hx1083_4⟩ := at_Item HR0_2.out x3_1 p1083 q1083
              have hw1083_4 := hx1083_4
              have hw1083_3 := hx1083_3
              have hw1083_2 := hx1083_2
              have hw1083_1 := hx1083_1
              have hw1083_0 := hx1083_0
              obtain rfl : ad1078 = ad1083 := (by injection e1083)
              replace hx1083_0 := hc_ HB hx1083_0
              replace hx1083_1 := hc_ HB hx1083_1
              replace hx1083_2 := hc_ HB hx1083_2
              replace hx1083_3 := hc_ HB hx1083_3
              replace hx1083_4 := hc_ HB hx1083_4
              replace p1083 := eq_true p1083
              replace q1083 := eq_true q1083
              refine start_ (n := 42) (S := fun w' => w'.cell? ⟨gb1077, 0, none⟩ = some (.int .i64 a0_0) ∧ w'.cell? ⟨gb1077, 1, none⟩ = some (.int .i64 a0_1) ∧ w'.cell? ⟨gb1077, 2, none⟩ = some (.slice (some ad1078) l0_2.length c0_2) ∧ w'.cell? (ad1078.add ((x3_1).toNat * 5)) = some (.int .i64 ((rd_Item l0_2 x3_1).f0)) ∧ w'.cell? ⟨(ad1078.add ((x3_1).toNat * 5)).block, (ad1078.add ((x3_1).toNat * 5)).off + 1, none⟩ = some (.string ((rd_Item l0_2 x3_1).f1)) ∧ w'.cell? ⟨(ad1078.add ((x3_1).toNat * 5)).block, (ad1078.add ((x3_1).toNat * 5)).off + 2, none⟩ = some (.string ((rd_Item l0_2 x3_1).f2)) ∧ w'.cell? ⟨(ad1078.add ((x3_1).toNat * 5)).block, (ad1078.add ((x3_1).toNat * 5)).off + 3, none⟩ = some (.int .i64 ((rd_Item l0_2 x3_1).f3)) ∧ w'.cell? ⟨(ad1078.add ((x3_1).toNat * 5)).block, (ad1078.add ((x3_1).toNat * 5)).off + 4, none⟩ = some (.int .i64 ((rd_Item l0_2 x3_1).f4)) ∧ w'.cell? (ad1078.add ((x3_1).toNat * 5)) = some (.int .i64 ((rd_Item l0_2 x3_1).f0)) ∧ w'.cell? ⟨(ad1078.add ((x3_1).toNat * 5)).block, (ad1078.add ((x3_1).toNat * 5)).off + 1, none⟩ = some (.string ((rd_Item l0_2 x3_1).f1)) ∧ w'.cell? ⟨(ad1078.add ((x3_1).toNat * 5)).block, (ad1078.add ((x3_1).toNat * 5)).off + 2, none⟩ = some (.string ((rd_Item l0_2 x3_1).f2)) ∧ w'.cell? ⟨(ad1078.add ((x3_1).toNat * 5)).block, (ad1078.add ((x3_1).toNat * 5)).off + 3, none⟩ = some (.int .i64 ((rd_Item l0_2 x3_1).f3)) ∧ w'.cell? ⟨(ad1078.add ((x3_1).toNat * 5)).block, (ad1078.add ((x3_1).toNat * 5)).off + 4, none⟩ = some (.int .i64 ((rd_Item l0_2 x3_1).f4)) ∧ w'.cell? (ad1078.add (((ji15)).toNat * 5)) = some (.int .i64 ((rd_Item l0_2 (ji15)).f0)) ∧ w'.cell? ⟨(ad1078.add (((ji15)).toNat * 5)).block, (ad1078.add (((ji15)).toNat * 5)).off + 1, none⟩ = some (.string ((rd_Item l0_2 (ji15)).f1)) ∧ w'.cell? ⟨(ad1078.add (((ji15)).toNat * 5)).block, (ad1078.add (((ji15)).toNat * 5)).off + 2, none⟩ = some (.string ((rd_Item l0_2 (ji15)).f2)) ∧ w'.cell? ⟨(ad1078.add (((ji15)).toNat * 5)).block, (ad1078.add (((ji15)).toNat * 5)).off + 3, none⟩ = some (.int .i64 ((rd_Item l0_2 (ji15)).f3)) ∧ w'.cell? ⟨(ad1078.add (((ji15)).toNat * 5)).block, (ad1078.add (((ji15)).toNat * 5)).off + 4, none⟩ = some (.int .i64 ((rd_Item l0_2 (ji15)).f4)) ∧ w'.cell? (ad1078.add ((x3_1).toNat * 5)) = some (.int .i64 ((rd_Item l0_2 x3_1).f0)) ∧ w'.cell? ⟨(ad1078.add ((x3_1).toNat * 5)).block, (ad1078.add ((x3_1).toNat * 5)).off + 1, none⟩ = some (.string ((rd_Item l0_2 x3_1).f1)) ∧ w'.cell? ⟨(ad1078.add ((x3_1).toNat * 5)).block, (ad1078.add ((x3_1).toNat * 5)).off + 2, none⟩ = some (.string ((rd_Item l0_2 x3_1).f2)) ∧ w'.cell? ⟨(ad1078.add ((x3_1).toNat * 5)).block, (ad1078.add ((x3_1).toNat * 5)).off + 3, none⟩ = some (.int .i64 ((rd_Item l0_2 x3_1).f3)) ∧ w'.cell? ⟨(ad1078.add ((x3_1).toNat * 5)).block, (ad1078.add ((x3_1).toNat * 5)).off + 4, none⟩ = some (.int .i64 ((rd_Item l0_2 x3_1).f4))) (ds := []) spec_RowOk.m0 (by kernel_rfl) rfl rfl ⟨bc_ BK1077 0, bc_ BK1077 1, bc_ BK1077 2, (hd_ HB hw1078_0), (hd_ HB hw1078_1), (hd_ HB hw1078_2), (hd_ HB hw1078_3), (hd_ HB hw1078_4), (hd_ HB hw1080_0), (hd_ HB hw1080_1), (hd_ HB hw1080_2), (hd_ HB hw1080_3), (hd_ HB hw1080_4), (hd_ HB hw1082_0), (hd_ HB hw1082_1), (hd_ HB hw1082_2), (hd_ HB hw1082_3), (hd_ HB hw1082_4), (hd_ HB hw1083_0), (hd_ HB hw1083_1), (hd_ HB hw1083_2), (hd_ HB hw1083_3), (hd_ HB hw1083_4)⟩ (fun hHeld => ?_); refine with_tabW spec_RowOk.tab4 spec_RowOk.bits4 (fun HT_ HW_ => ?_)
              generalize wc.drew = w18 at BK1077 HB hx1078_0 hx1078_1 hx1078_2 hx1078_3 hx1078_4 hx1080_0 hx1080_1 hx1080_2 hx1080_3 hx1080_4 hx1082_0 hx1082_1 hx1082_2 hx1082_3 hx1082_4 hx1083_0 hx1083_1 hx1083_2 hx1083_3 hx1083_4 hHeld ⊢
              refine pI_ 0 11 HT_ spec_RowOk.m1 rfl rfl ?_
              refine pI_ 2 13 HT_ spec_RowOk.m2 rfl rfl ?_
              refine tk_ 1 12 HT_ HW_ spec_RowOk.m3 rfl rfl hHeld ?_
              refine pI_ 3 14 HT_ spec_RowOk.m4 rfl rfl ?_
              refine tk_ 4 15 HT_ HW_ spec_RowOk.m5 rfl rfl hHeld ?_
              refine on_ 5 16 HT_ spec_RowOk.m6 rfl rfl (fun K hK => ?_)
              refine goes_ Try.func107 (by kernel_rfl) rfl #[.agg #[.int .i64 ((rd_Item l0_2 x3_1).f0), .string ((rd_Item l0_2 x3_1).f1), .string ((rd_Item l0_2 x3_1).f2), .int .i64 ((rd_Item l0_2 x3_1).f3), .int .i64 ((rd_Item l0_2 x3_1).f4)]] (by rfl) rfl rfl sm_ ?_
              with_reducible refine (spec_l3Item.calls kj3 ((rd_Item l0_2 x3_1).f0) ((rd_Item l0_2 x3_1).f1) ((rd_Item l0_2 x3_1).f2) ((rd_Item l0_2 x3_1).f3) ((rd_Item l0_2 x3_1).f4) true _ A10.out).mono ?_
              rintro e w19 ⟨rfl, hb⟩
              refine ⟨_, rfl, ?_⟩
              replace BK1077 := cb_ BK1077 hb
              replace HB := ch_ HB hb
              (try clear hb)
              refine hK.out _ _ ⟨bc_ BK1077 0, bc_ BK1077 1, bc_ BK1077 2, (hd_ HB hw1078_0), (hd_ HB hw1078_1), (hd_ HB hw1078_2), (hd_ HB hw1078_3), (hd_ HB hw1078_4), (hd_ HB hw1080_0), (hd_ HB hw1080_1), (hd_ HB hw1080_2), (hd_ HB hw1080_3), (hd_ HB hw1080_4), (hd_ HB hw1082_0), (hd_ HB hw1082_1), (hd_ HB hw1082_2), (hd_ HB hw1082_3), (hd_ HB hw1082_4), (hd_ HB hw1083_0), (hd_ HB hw1083_1), (hd_ HB hw1083_2), (hd_ HB hw1083_3), (hd_ HB hw1083_4)⟩ (fun hHeld => ?_)
              clear hK K
              refine nm_ ?_
              refine pI_ 6 17 HT_ spec_RowOk.m7 rfl rfl ?_
              refine pI_ 7 18 HT_ spec_RowOk.m8 rfl rfl ?_
              refine pI_ 8 19 HT_ spec_RowOk.m9 rfl rfl ?_
              refine pI_ 10 21 HT_ spec_RowOk.m10 rfl rfl ?_
              refine pI_ 14 25 HT_ spec_RowOk.m11 rfl rfl ?_
              refine pI_ 16 27 HT_ spec_RowOk.m12 rfl rfl ?_
              refine tk_ 9 20 HT_ HW_ spec_RowOk.m13 rfl rfl hHeld ?_
              refine pI_ 11 22 HT_ spec_RowOk.m14 rfl rfl ?_
              refine pI_ 12 23 HT_ spec_RowOk.m15 rfl rfl ?_
              refine tk_ 13 24 HT_ HW_ spec_RowOk.m16 rfl rfl hHeld ?_
              refine tk_ 15 26 HT_ HW_ spec_RowOk.m17 rfl rfl hHeld ?_
              refine tk_ 17 28 HT_ HW_ spec_RowOk.m18 rfl rfl hHeld ?_
              refine pI_ 18 29 HT_ spec_RowOk.m19 rfl rfl ?_
              refine on_ 19 30 HT_ spec_RowOk.m20 rfl rfl (fun K hK => ?_)
              refine goes_ Try.func84 (by kernel_rfl) rfl #[.int .i64 ((rd_Item l0_2 x3_1).f0), .int .i64 a0_0, .int .i64 (wrap64 (a0_1 - 1))] (by rfl) rfl rfl sm_ ?_
              with_reducible refine (spec_l1In.calls ((rd_Item l0_2 x3_1).f0) a0_0 (wrap64 (a0_1 - 1)) true _ A12.out).mono ?_
              rintro e w' ⟨rfl, ⟨nd, rfl⟩⟩
              refine ⟨_, rfl, ?_⟩
              refine hK.out _ _ ⟨bc_ BK1077 0, bc_ BK1077 1, bc_ BK1077 2, (hd_ HB hw1078_0), (hd_ HB hw1078_1), (hd_ HB hw1078_2), (hd_ HB hw1078_3), (hd_ HB hw1078_4), (hd_ HB hw1080_0), (hd_ HB hw1080_1), (hd_ HB hw1080_2), (hd_ HB hw1080_3), (hd_ HB hw1080_4), (hd_ HB hw1082_0), (hd_ HB hw1082_1), (hd_ HB hw1082_2), (hd_ HB hw1082_3), (hd_ HB hw1082_4), (hd_ HB hw1083_0), (hd_ HB hw1083_1), (hd_ HB hw1083_2), (hd_ HB hw1083_3), (hd_ HB hw1083_4)⟩ (fun hHeld => ?_)
              clear hK K
              refine nm_ ?_
              refine pI_ 20 31 HT_ spec_RowOk.m21 rfl rfl ?_
              refine pI_ 21 32 HT_ spec_RowOk.m22 rfl rfl ?_
              refine pI_ 22 33 HT_ spec_RowOk.m23 rfl rfl ?_
              refine pI_ 23 34 HT_ spec_RowOk.m24 rfl rfl ?_
              refine pI_ 24 35 HT_ spec_RowOk.m25 rfl rfl ?_
              refine pI_ 25 36 HT_ spec_RowOk.m26 rfl rfl ?_
              refine pI_ 26 37 HT_ spec_RowOk.m27 rfl rfl ?_
              refine pI_ 28 39 HT_ #[true, true, true, true, true, true, true, true, true, true, true, true, true, true, true, true, true, true, true, true, true, true, true, true, true, true, true, false, true, false, false, false, false, false, false, false, false, false, false, false, false, false] rfl rfl ?_
              refine pI_ 29 40 HT_ #[true, true, true, true, true, true, true, true, true, true, true, true, true, true, true, true, true, true, true, true, true, true, true, true, true, true, true, false, true, true, false, false, false, false, false, false, false, false, false, false, false, false] rfl rfl ?_
              refine pI_ 33 44 HT_ #[true, true, true, true, true, true, true, true, true, true, true, true, true, true, true, true, true, true, true, true, true, true, true, true, true, true, true, false, true, true, false, false, false, true, false, false, false, false, false, false, false, false] rfl rfl ?_
              refine pI_ 35 46 HT_ #[true, true, true, true, true, true, true, true, true, true, true, true, true, true, true, true, true, true, true, true, true, true, true, true, true, true, true, false, true, true, false, false, false, true, false, true, false, false, false, false, false, false] rfl rfl ?_
              refine tk_ 27 38 HT_ HW_ #[true, true, true, true, true, true, true, true, true, true, true, true, true, true, true, true, true, true, true, true, true, true, true, true, true, true, true, true, true, true, false, false, false, true, false, true, false, false, false, false, false, false] rfl rfl hHeld ?_
              refine pI_ 30 41 HT_ #[true, true, true, true, true, true, true, true, true, true, true, true, true, true, true, true, true, true, true, true, true, true, true, true, true, true, true, true, true, true, true, false, false, true, false, true, false, false, false, false, false, false] rfl rfl ?_
              refine pI_ 31 42 HT_ #[true, true, true, true, true, true, true, true, true, true, true, true, true, true, true, true, true, true, true, true, true, true, true, true, true, true, true, true, true, true, true, true, false, true, false, true, false, false, false, false, false, false] rfl rfl ?_
              refine tk_ 32 43 HT_ HW_ #[true, true, true, true, true, true, true, true, true, true, true, true, true, true, true, true, true, true, true, true, true, true, true, true, true, true, true, true, true, true, true, true, true, true, false, true, false, false, false, false, false, false] rfl rfl hHeld ?_
              refine tk_ 34 45 HT_ HW_ spec_RowOk.m28 rfl rfl hHeld ?_
              refine pI_ 36 47 HT_ spec_RowOk.m29 rfl rfl ?_
              refine pI_ 37 48 HT_ spec_RowOk.m30 rfl rfl ?_
              refine tk_ 38 49 HT_ HW_ spec_RowOk.m31 rfl rfl hHeld ?_
              refine pI_ 39 50 HT_ spec_RowOk.m32 rfl rfl ?_
              refine pI_ 40 51 HT_ spec_RowOk.m33 rfl rfl ?_
              refine pI_ 41 52 HT_ spec_RowOk.m34 rfl rfl ?_
              refine done_ (done_of HT_.out (by kernel_rfl)) ?_
              try go_wp2
              go_meet
              case rel => exact ⟨_, (decide (((rd_Item l0_2 (ji15)).f0) ≥ ((rd_Item l0_2 x3_1).f0))), (by first | rfl | (simp; done) | (simp only [← hji15] <;> (first | rfl | simp)) | (simp [*]; done)), H', ⟨qa13_⟩, ⟨bq_ BK1077.out⟩, ⟨hb_ HB.out⟩⟩
             ·
              rw [if_neg c17] at H
              exact absurd H (by simp)
            ·
             rw [if_neg c16] at H
             exact absurd H (by simp)
           ·
            rw [if_neg c14] at H
            have c14b0 : decide (0 < x3_1) = false := decide_eq_false c14
            clear c14
            have H' := Aside0.mk H
            clear H
            try go_wp2
            replace BK1077 := Aside0.mk (blk_drew BK1077.out)
            replace HB := Aside0.mk (below_drew1 HB.out)
            have p1078 : 0 ≤ (x3_1 : Int) := of_decide_eq_true dt_
            have q1078 : x3_1 < (l0_2.length : Int) := of_decide_eq_true dt_
            obtain ⟨ad1078, e1078, hx1078_0, hx1078_1, hx1078_2, hx1078_3, hx1078_4⟩ := at_Item HR0_2.out x3_1 p1078 q1078
            have hw1078_4 := hx1078_4
            have hw1078_3 := hx1078_3
            have hw1078_2 := hx1078_2
            have hw1078_1 := hx1078_1
            have hw1078_0 := hx1078_0
            cases e1078
            replace hx1078_0 := hc_ HB hx1078_0
            replace hx1078_1 := hc_ HB hx1078_1
            replace hx1078_2 := hc_ HB hx1078_2
            replace hx1078_3 := hc_ HB hx1078_3
            replace hx1078_4 := hc_ HB hx1078_4
            replace p1078 := eq_true p1078
            replace q1078 := eq_true q1078
            have p1080 : 0 ≤ (x3_1 : Int) := of_decide_eq_true dt_
            have q1080 : x3_1 < (l0_2.length : Int) := of_decide_eq_true dt_
            obtain ⟨ad1080, e1080, hx1080_0, hx1080_1, hx1080_2, hx1080_3, hx1080_4⟩ := at_Item HR0_2.out x3_1 p1080 q1080
            have hw1080_4 := hx1080_4
            have hw1080_3 := hx1080_3
            have hw1080_2 := hx1080_2
            have hw1080_1 := hx1080_1
            have hw1080_0 := hx1080_0
            obtain rfl : ad1078 = ad1080 := (by injection e1080)
            replace hx1080_0 := hc_ HB hx1080_0
            replace hx1080_1 := hc_ HB hx1080_1
            replace hx1080_2 := hc_ HB hx1080_2
            replace hx1080_3 := hc_ HB hx1080_3
            replace hx1080_4 := hc_ HB hx1080_4
            replace p1080 := eq_true p1080
            replace q1080 := eq_true q1080
            refine start_ (n := 42) (S := fun w' => w'.cell? ⟨gb1077, 0, none⟩ = some (.int .i64 a0_0) ∧ w'.cell? ⟨gb1077, 1, none⟩ = some (.int .i64 a0_1) ∧ w'.cell? ⟨gb1077, 2, none⟩ = some (.slice (some ad1078) l0_2.length c0_2) ∧ w'.cell? (ad1078.add ((x3_1).toNat * 5)) = some (.int .i64 ((rd_Item l0_2 x3_1).f0)) ∧ w'.cell? ⟨(ad1078.add ((x3_1).toNat * 5)).block, (ad1078.add ((x3_1).toNat * 5)).off + 1, none⟩ = some (.string ((rd_Item l0_2 x3_1).f1)) ∧ w'.cell? ⟨(ad1078.add ((x3_1).toNat * 5)).block, (ad1078.add ((x3_1).toNat * 5)).off + 2, none⟩ = some (.string ((rd_Item l0_2 x3_1).f2)) ∧ w'.cell? ⟨(ad1078.add ((x3_1).toNat * 5)).block, (ad1078.add ((x3_1).toNat * 5)).off + 3, none⟩ = some (.int .i64 ((rd_Item l0_2 x3_1).f3)) ∧ w'.cell? ⟨(ad1078.add ((x3_1).toNat * 5)).block, (ad1078.add ((x3_1).toNat * 5)).off + 4, none⟩ = some (.int .i64 ((rd_Item l0_2 x3_1).f4)) ∧ w'.cell? (ad1078.add ((x3_1).toNat * 5)) = some (.int .i64 ((rd_Item l0_2 x3_1).f0)) ∧ w'.cell? ⟨(ad1078.add ((x3_1).toNat * 5)).block, (ad1078.add ((x3_1).toNat * 5)).off + 1, none⟩ = some (.string ((rd_Item l0_2 x3_1).f1)) ∧ w'.cell? ⟨(ad1078.add ((x3_1).toNat * 5)).block, (ad1078.add ((x3_1).toNat * 5)).off + 2, none⟩ = some (.string ((rd_Item l0_2 x3_1).f2)) ∧ w'.cell? ⟨(ad1078.add ((x3_1).toNat * 5)).block, (ad1078.add ((x3_1).toNat * 5)).off + 3, none⟩ = some (.int .i64 ((rd_Item l0_2 x3_1).f3)) ∧ w'.cell? ⟨(ad1078.add ((x3_1).toNat * 5)).block, (ad1078.add ((x3_1).toNat * 5)).off + 4, none⟩ = some (.int .i64 ((rd_Item l0_2 x3_1).f4))) (ds := []) spec_RowOk.m0 (by kernel_rfl) rfl rfl ⟨bc_ BK1077 0, bc_ BK1077 1, bc_ BK1077 2, (hd_ HB hw1078_0), (hd_ HB hw1078_1), (hd_ HB hw1078_2), (hd_ HB hw1078_3), (hd_ HB hw1078_4), (hd_ HB hw1080_0), (hd_ HB hw1080_1), (hd_ HB hw1080_2), (hd_ HB hw1080_3), (hd_ HB hw1080_4)⟩ (fun hHeld => ?_); refine with_tabW spec_RowOk.tab4 spec_RowOk.bits4 (fun HT_ HW_ => ?_)
            generalize wc.drew = w20 at BK1077 HB hx1078_0 hx1078_1 hx1078_2 hx1078_3 hx1078_4 hx1080_0 hx1080_1 hx1080_2 hx1080_3 hx1080_4 hHeld ⊢
            refine pI_ 0 11 HT_ spec_RowOk.m1 rfl rfl ?_
            refine pI_ 2 13 HT_ spec_RowOk.m2 rfl rfl ?_
            refine tk_ 1 12 HT_ HW_ spec_RowOk.m3 rfl rfl hHeld ?_
            refine pI_ 3 14 HT_ spec_RowOk.m4 rfl rfl ?_
            refine tk_ 4 15 HT_ HW_ spec_RowOk.m5 rfl rfl hHeld ?_
            refine on_ 5 16 HT_ spec_RowOk.m6 rfl rfl (fun K hK => ?_)
            refine goes_ Try.func107 (by kernel_rfl) rfl #[.agg #[.int .i64 ((rd_Item l0_2 x3_1).f0), .string ((rd_Item l0_2 x3_1).f1), .string ((rd_Item l0_2 x3_1).f2), .int .i64 ((rd_Item l0_2 x3_1).f3), .int .i64 ((rd_Item l0_2 x3_1).f4)]] (by rfl) rfl rfl sm_ ?_
            with_reducible refine (spec_l3Item.calls kj3 ((rd_Item l0_2 x3_1).f0) ((rd_Item l0_2 x3_1).f1) ((rd_Item l0_2 x3_1).f2) ((rd_Item l0_2 x3_1).f3) ((rd_Item l0_2 x3_1).f4) true _ A10.out).mono ?_
            rintro e w21 ⟨rfl, hb⟩
            refine ⟨_, rfl, ?_⟩
            replace BK1077 := cb_ BK1077 hb
            replace HB := ch_ HB hb
            (try clear hb)
            refine hK.out _ _ ⟨bc_ BK1077 0, bc_ BK1077 1, bc_ BK1077 2, (hd_ HB hw1078_0), (hd_ HB hw1078_1), (hd_ HB hw1078_2), (hd_ HB hw1078_3), (hd_ HB hw1078_4), (hd_ HB hw1080_0), (hd_ HB hw1080_1), (hd_ HB hw1080_2), (hd_ HB hw1080_3), (hd_ HB hw1080_4)⟩ (fun hHeld => ?_)
            clear hK K
            refine nm_ ?_
            refine pI_ 6 17 HT_ spec_RowOk.m7 rfl rfl ?_
            refine pI_ 7 18 HT_ spec_RowOk.m8 rfl rfl ?_
            refine pI_ 8 19 HT_ spec_RowOk.m9 rfl rfl ?_
            refine pI_ 10 21 HT_ spec_RowOk.m10 rfl rfl ?_
            refine pI_ 14 25 HT_ spec_RowOk.m11 rfl rfl ?_
            refine pI_ 16 27 HT_ spec_RowOk.m12 rfl rfl ?_
            refine tk_ 9 20 HT_ HW_ spec_RowOk.m13 rfl rfl hHeld ?_
            refine pI_ 11 22 HT_ spec_RowOk.m14 rfl rfl ?_
            refine pI_ 12 23 HT_ spec_RowOk.m15 rfl rfl ?_
            refine tk_ 13 24 HT_ HW_ spec_RowOk.m16 rfl rfl hHeld ?_
            refine tk_ 15 26 HT_ HW_ spec_RowOk.m17 rfl rfl hHeld ?_
            refine tk_ 17 28 HT_ HW_ spec_RowOk.m18 rfl rfl hHeld ?_
            refine pI_ 18 29 HT_ spec_RowOk.m19 rfl rfl ?_
            refine on_ 19 30 HT_ spec_RowOk.m20 rfl rfl (fun K hK => ?_)
            refine goes_ Try.func84 (by kernel_rfl) rfl #[.int .i64 ((rd_Item l0_2 x3_1).f0), .int .i64 a0_0, .int .i64 (wrap64 (a0_1 - 1))] (by rfl) rfl rfl sm_ ?_
            with_reducible refine (spec_l1In.calls ((rd_Item l0_2 x3_1).f0) a0_0 (wrap64 (a0_1 - 1)) true _ A12.out).mono ?_
            rintro e w' ⟨rfl, ⟨nd, rfl⟩⟩
            refine ⟨_, rfl, ?_⟩
            refine hK.out _ _ ⟨bc_ BK1077 0, bc_ BK1077 1, bc_ BK1077 2, (hd_ HB hw1078_0), (hd_ HB hw1078_1), (hd_ HB hw1078_2), (hd_ HB hw1078_3), (hd_ HB hw1078_4), (hd_ HB hw1080_0), (hd_ HB hw1080_1), (hd_ HB hw1080_2), (hd_ HB hw1080_3), (hd_ HB hw1080_4)⟩ (fun hHeld => ?_)
            clear hK K
            refine nm_ ?_
            refine pI_ 20 31 HT_ spec_RowOk.m21 rfl rfl ?_
            refine pI_ 21 32 HT_ spec_RowOk.m22 rfl rfl ?_
            refine pI_ 22 33 HT_ spec_RowOk.m23 rfl rfl ?_
            refine pI_ 23 34 HT_ spec_RowOk.m24 rfl rfl ?_
            refine pI_ 24 35 HT_ spec_RowOk.m25 rfl rfl ?_
            refine pI_ 25 36 HT_ spec_RowOk.m26 rfl rfl ?_
            refine pU_ 26 37 HT_ spec_RowOk.m27 rfl rfl ?_
            refine pU_ 27 38 HT_ spec_RowOk.m35 rfl rfl ?_
            refine pU_ 28 39 HT_ spec_RowOk.m36 rfl rfl ?_
            refine pU_ 29 40 HT_ spec_RowOk.m37 rfl rfl ?_
            refine pU_ 30 41 HT_ spec_RowOk.m38 rfl rfl ?_
            refine pU_ 31 42 HT_ spec_RowOk.m39 rfl rfl ?_
            refine pU_ 32 43 HT_ spec_RowOk.m40 rfl rfl ?_
            refine pU_ 33 44 HT_ spec_RowOk.m41 rfl rfl ?_
            refine pU_ 34 45 HT_ spec_RowOk.m42 rfl rfl ?_
            refine pU_ 35 46 HT_ spec_RowOk.m28 rfl rfl ?_
            refine pU_ 36 47 HT_ spec_RowOk.m29 rfl rfl ?_
            refine pU_ 37 48 HT_ spec_RowOk.m30 rfl rfl ?_
            refine pU_ 38 49 HT_ spec_RowOk.m31 rfl rfl ?_
            refine pU_ 39 50 HT_ spec_RowOk.m32 rfl rfl ?_
            refine pI_ 40 51 HT_ spec_RowOk.m33 rfl rfl ?_
            refine pI_ 41 52 HT_ spec_RowOk.m34 rfl rfl ?_
            refine done_ (done_of HT_.out (by kernel_rfl)) ?_
            try go_wp2
            go_meet
            case rel => exact ⟨_, (false), (qa2_), H', ⟨qa13_⟩, ⟨bq_ BK1077.out⟩, ⟨hb_ HB.out⟩⟩
          ·
           replace c13 := Bool.eq_false_iff.mpr c13
           subst c13
           have H1 : (spec_RowOk.j2 kj3 x3_1 true a0_0 a0_1 l0_2) = some r := by rw [if_neg (show ¬ (false = true) by decide)] at H; exact H
           clear H
           have H := H1
           clear H1
           have H' := Aside0.mk H
           clear H
           try go_wp2
           replace BK1077 := Aside0.mk (blk_drew BK1077.out)
           replace HB := Aside0.mk (below_drew1 HB.out)
           have p1078 : 0 ≤ (x3_1 : Int) := of_decide_eq_true dt_
           have q1078 : x3_1 < (l0_2.length : Int) := of_decide_eq_true dt_
           obtain ⟨ad1078, e1078, hx1078_0, hx1078_1, hx1078_2, hx1078_3, hx1078_4⟩ := at_Item HR0_2.out x3_1 p1078 q1078
           have hw1078_4 := hx1078_4
           have hw1078_3 := hx1078_3
           have hw1078_2 := hx1078_2
           have hw1078_1 := hx1078_1
           have hw1078_0 := hx1078_0
           cases e1078
           replace hx1078_0 := hc_ HB hx1078_0
           replace hx1078_1 := hc_ HB hx1078_1
           replace hx1078_2 := hc_ HB hx1078_2
           replace hx1078_3 := hc_ HB hx1078_3
           replace hx1078_4 := hc_ HB hx1078_4
           replace p1078 := eq_true p1078
           replace q1078 := eq_true q1078
           have p1080 : 0 ≤ (x3_1 : Int) := of_decide_eq_true dt_
           have q1080 : x3_1 < (l0_2.length : Int) := of_decide_eq_true dt_
           obtain ⟨ad1080, e1080, hx1080_0, hx1080_1, hx1080_2, hx1080_3, hx1080_4⟩ := at_Item HR0_2.out x3_1 p1080 q1080
           have hw1080_4 := hx1080_4
           have hw1080_3 := hx1080_3
           have hw1080_2 := hx1080_2
           have hw1080_1 := hx1080_1
           have hw1080_0 := hx1080_0
           obtain rfl : ad1078 = ad1080 := (by injection e1080)
           replace hx1080_0 := hc_ HB hx1080_0
           replace hx1080_1 := hc_ HB hx1080_1
           replace hx1080_2 := hc_ HB hx1080_2
           replace hx1080_3 := hc_ HB hx1080_3
           replace hx1080_4 := hc_ HB hx1080_4
           replace p1080 := eq_true p1080
           replace q1080 := eq_true q1080
           refine start_ (n := 42) (S := fun w' => w'.cell? ⟨gb1077, 0, none⟩ = some (.int .i64 a0_0) ∧ w'.cell? ⟨gb1077, 1, none⟩ = some (.int .i64 a0_1) ∧ w'.cell? ⟨gb1077, 2, none⟩ = some (.slice (some ad1078) l0_2.length c0_2) ∧ w'.cell? (ad1078.add ((x3_1).toNat * 5)) = some (.int .i64 ((rd_Item l0_2 x3_1).f0)) ∧ w'.cell? ⟨(ad1078.add ((x3_1).toNat * 5)).block, (ad1078.add ((x3_1).toNat * 5)).off + 1, none⟩ = some (.string ((rd_Item l0_2 x3_1).f1)) ∧ w'.cell? ⟨(ad1078.add ((x3_1).toNat * 5)).block, (ad1078.add ((x3_1).toNat * 5)).off + 2, none⟩ = some (.string ((rd_Item l0_2 x3_1).f2)) ∧ w'.cell? ⟨(ad1078.add ((x3_1).toNat * 5)).block, (ad1078.add ((x3_1).toNat * 5)).off + 3, none⟩ = some (.int .i64 ((rd_Item l0_2 x3_1).f3)) ∧ w'.cell? ⟨(ad1078.add ((x3_1).toNat * 5)).block, (ad1078.add ((x3_1).toNat * 5)).off + 4, none⟩ = some (.int .i64 ((rd_Item l0_2 x3_1).f4)) ∧ w'.cell? (ad1078.add ((x3_1).toNat * 5)) = some (.int .i64 ((rd_Item l0_2 x3_1).f0)) ∧ w'.cell? ⟨(ad1078.add ((x3_1).toNat * 5)).block, (ad1078.add ((x3_1).toNat * 5)).off + 1, none⟩ = some (.string ((rd_Item l0_2 x3_1).f1)) ∧ w'.cell? ⟨(ad1078.add ((x3_1).toNat * 5)).block, (ad1078.add ((x3_1).toNat * 5)).off + 2, none⟩ = some (.string ((rd_Item l0_2 x3_1).f2)) ∧ w'.cell? ⟨(ad1078.add ((x3_1).toNat * 5)).block, (ad1078.add ((x3_1).toNat * 5)).off + 3, none⟩ = some (.int .i64 ((rd_Item l0_2 x3_1).f3)) ∧ w'.cell? ⟨(ad1078.add ((x3_1).toNat * 5)).block, (ad1078.add ((x3_1).toNat * 5)).off + 4, none⟩ = some (.int .i64 ((rd_Item l0_2 x3_1).f4))) (ds := []) spec_RowOk.m0 (by kernel_rfl) rfl rfl ⟨bc_ BK1077 0, bc_ BK1077 1, bc_ BK1077 2, (hd_ HB hw1078_0), (hd_ HB hw1078_1), (hd_ HB hw1078_2), (hd_ HB hw1078_3), (hd_ HB hw1078_4), (hd_ HB hw1080_0), (hd_ HB hw1080_1), (hd_ HB hw1080_2), (hd_ HB hw1080_3), (hd_ HB hw1080_4)⟩ (fun hHeld => ?_); refine with_tabW spec_RowOk.tab4 spec_RowOk.bits4 (fun HT_ HW_ => ?_)
           generalize wc.drew = w22 at BK1077 HB hx1078_0 hx1078_1 hx1078_2 hx1078_3 hx1078_4 hx1080_0 hx1080_1 hx1080_2 hx1080_3 hx1080_4 hHeld ⊢
           refine pI_ 0 11 HT_ spec_RowOk.m1 rfl rfl ?_
           refine pI_ 2 13 HT_ spec_RowOk.m2 rfl rfl ?_
           refine tk_ 1 12 HT_ HW_ spec_RowOk.m3 rfl rfl hHeld ?_
           refine pI_ 3 14 HT_ spec_RowOk.m4 rfl rfl ?_
           refine tk_ 4 15 HT_ HW_ spec_RowOk.m5 rfl rfl hHeld ?_
           refine on_ 5 16 HT_ spec_RowOk.m6 rfl rfl (fun K hK => ?_)
           refine goes_ Try.func107 (by kernel_rfl) rfl #[.agg #[.int .i64 ((rd_Item l0_2 x3_1).f0), .string ((rd_Item l0_2 x3_1).f1), .string ((rd_Item l0_2 x3_1).f2), .int .i64 ((rd_Item l0_2 x3_1).f3), .int .i64 ((rd_Item l0_2 x3_1).f4)]] (by rfl) rfl rfl sm_ ?_
           with_reducible refine (spec_l3Item.calls kj3 ((rd_Item l0_2 x3_1).f0) ((rd_Item l0_2 x3_1).f1) ((rd_Item l0_2 x3_1).f2) ((rd_Item l0_2 x3_1).f3) ((rd_Item l0_2 x3_1).f4) true _ A10.out).mono ?_
           rintro e w23 ⟨rfl, hb⟩
           refine ⟨_, rfl, ?_⟩
           replace BK1077 := cb_ BK1077 hb
           replace HB := ch_ HB hb
           (try clear hb)
           refine hK.out _ _ ⟨bc_ BK1077 0, bc_ BK1077 1, bc_ BK1077 2, (hd_ HB hw1078_0), (hd_ HB hw1078_1), (hd_ HB hw1078_2), (hd_ HB hw1078_3), (hd_ HB hw1078_4), (hd_ HB hw1080_0), (hd_ HB hw1080_1), (hd_ HB hw1080_2), (hd_ HB hw1080_3), (hd_ HB hw1080_4)⟩ (fun hHeld => ?_)
           clear hK K
           refine nm_ ?_
           refine pI_ 6 17 HT_ spec_RowOk.m7 rfl rfl ?_
           refine pI_ 7 18 HT_ spec_RowOk.m8 rfl rfl ?_
           refine pI_ 8 19 HT_ spec_RowOk.m9 rfl rfl ?_
           refine pI_ 10 21 HT_ spec_RowOk.m10 rfl rfl ?_
           refine pI_ 14 25 HT_ spec_RowOk.m11 rfl rfl ?_
           refine pI_ 16 27 HT_ spec_RowOk.m12 rfl rfl ?_
           refine tk_ 9 20 HT_ HW_ spec_RowOk.m13 rfl rfl hHeld ?_
           refine pI_ 11 22 HT_ spec_RowOk.m14 rfl rfl ?_
           refine pI_ 12 23 HT_ spec_RowOk.m15 rfl rfl ?_
           refine tk_ 13 24 HT_ HW_ spec_RowOk.m16 rfl rfl hHeld ?_
           refine tk_ 15 26 HT_ HW_ spec_RowOk.m17 rfl rfl hHeld ?_
           refine tk_ 17 28 HT_ HW_ spec_RowOk.m18 rfl rfl hHeld ?_
           refine pI_ 18 29 HT_ spec_RowOk.m19 rfl rfl ?_
           refine on_ 19 30 HT_ spec_RowOk.m20 rfl rfl (fun K hK => ?_)
           refine goes_ Try.func84 (by kernel_rfl) rfl #[.int .i64 ((rd_Item l0_2 x3_1).f0), .int .i64 a0_0, .int .i64 (wrap64 (a0_1 - 1))] (by rfl) rfl rfl sm_ ?_
           with_reducible refine (spec_l1In.calls ((rd_Item l0_2 x3_1).f0) a0_0 (wrap64 (a0_1 - 1)) false _ A12.out).mono ?_
           rintro e w' ⟨rfl, ⟨nd, rfl⟩⟩
           refine ⟨_, rfl, ?_⟩
           refine hK.out _ _ ⟨bc_ BK1077 0, bc_ BK1077 1, bc_ BK1077 2, (hd_ HB hw1078_0), (hd_ HB hw1078_1), (hd_ HB hw1078_2), (hd_ HB hw1078_3), (hd_ HB hw1078_4), (hd_ HB hw1080_0), (hd_ HB hw1080_1), (hd_ HB hw1080_2), (hd_ HB hw1080_3), (hd_ HB hw1080_4)⟩ (fun hHeld => ?_)
           clear hK K
           refine nm_ ?_
           refine pI_ 20 31 HT_ spec_RowOk.m21 rfl rfl ?_
           refine pI_ 21 32 HT_ spec_RowOk.m22 rfl rfl ?_
           refine pI_ 22 33 HT_ spec_RowOk.m23 rfl rfl ?_
           refine pU_ 23 34 HT_ spec_RowOk.m24 rfl rfl ?_
           refine pU_ 24 35 HT_ spec_RowOk.m25 rfl rfl ?_
           refine pU_ 25 36 HT_ spec_RowOk.m26 rfl rfl ?_
           refine pU_ 26 37 HT_ spec_RowOk.m27 rfl rfl ?_
           refine pU_ 27 38 HT_ spec_RowOk.m35 rfl rfl ?_
           refine pU_ 28 39 HT_ spec_RowOk.m36 rfl rfl ?_
           refine pU_ 29 40 HT_ spec_RowOk.m37 rfl rfl ?_
           refine pU_ 30 41 HT_ spec_RowOk.m38 rfl rfl ?_
           refine pU_ 31 42 HT_ spec_RowOk.m39 rfl rfl ?_
           refine pU_ 32 43 HT_ spec_RowOk.m40 rfl rfl ?_
           refine pU_ 33 44 HT_ spec_RowOk.m41 rfl rfl ?_
           refine pU_ 34 45 HT_ spec_RowOk.m42 rfl rfl ?_
           refine pU_ 35 46 HT_ spec_RowOk.m28 rfl rfl ?_
           refine pU_ 36 47 HT_ spec_RowOk.m29 rfl rfl ?_
           refine pU_ 37 48 HT_ spec_RowOk.m30 rfl rfl ?_
           refine pU_ 38 49 HT_ spec_RowOk.m31 rfl rfl ?_
           refine pU_ 39 50 HT_ spec_RowOk.m32 rfl rfl ?_
           refine pU_ 40 51 HT_ spec_RowOk.m33 rfl rfl ?_
           refine pI_ 41 52 HT_ spec_RowOk.m34 rfl rfl ?_
           refine done_ (done_of HT_.out (by kernel_rfl)) ?_
           try go_wp2
           go_meet
           case rel => exact ⟨_, (true), (qa2_), H', ⟨qa13_⟩, ⟨bq_ BK1077.out⟩, ⟨hb_ HB.out⟩⟩
         ·
          replace c11 := Bool.eq_false_iff.mpr c11
          subst c11
          have H1 : (spec_RowOk.j2 kj3 x3_1 true a0_0 a0_1 l0_2) = some r := by rw [if_neg (show ¬ (false = true) by decide)] at H; exact H
          clear H
          have H := H1
          clear H1
          have H' := Aside0.mk H
          clear H
          try go_wp2
          replace BK1077 := Aside0.mk (blk_drew BK1077.out)
          replace HB := Aside0.mk (below_drew1 HB.out)
          have p1078 : 0 ≤ (x3_1 : Int) := of_decide_eq_true dt_
          have q1078 : x3_1 < (l0_2.length : Int) := of_decide_eq_true dt_
          obtain ⟨ad1078, e1078, hx1078_0, hx1078_1, hx1078_2, hx1078_3, hx1078_4⟩ := at_Item HR0_2.out x3_1 p1078 q1078
          have hw1078_4 := hx1078_4
          have hw1078_3 := hx1078_3
          have hw1078_2 := hx1078_2
          have hw1078_1 := hx1078_1
          have hw1078_0 := hx1078_0
          cases e1078
          replace hx1078_0 := hc_ HB hx1078_0
          replace hx1078_1 := hc_ HB hx1078_1
          replace hx1078_2 := hc_ HB hx1078_2
          replace hx1078_3 := hc_ HB hx1078_3
          replace hx1078_4 := hc_ HB hx1078_4
          replace p1078 := eq_true p1078
          replace q1078 := eq_true q1078
          refine start_ (n := 42) (S := fun w' => w'.cell? ⟨gb1077, 0, none⟩ = some (.int .i64 a0_0) ∧ w'.cell? ⟨gb1077, 1, none⟩ = some (.int .i64 a0_1) ∧ w'.cell? ⟨gb1077, 2, none⟩ = some (.slice (some ad1078) l0_2.length c0_2) ∧ w'.cell? (ad1078.add ((x3_1).toNat * 5)) = some (.int .i64 ((rd_Item l0_2 x3_1).f0)) ∧ w'.cell? ⟨(ad1078.add ((x3_1).toNat * 5)).block, (ad1078.add ((x3_1).toNat * 5)).off + 1, none⟩ = some (.string ((rd_Item l0_2 x3_1).f1)) ∧ w'.cell? ⟨(ad1078.add ((x3_1).toNat * 5)).block, (ad1078.add ((x3_1).toNat * 5)).off + 2, none⟩ = some (.string ((rd_Item l0_2 x3_1).f2)) ∧ w'.cell? ⟨(ad1078.add ((x3_1).toNat * 5)).block, (ad1078.add ((x3_1).toNat * 5)).off + 3, none⟩ = some (.int .i64 ((rd_Item l0_2 x3_1).f3)) ∧ w'.cell? ⟨(ad1078.add ((x3_1).toNat * 5)).block, (ad1078.add ((x3_1).toNat * 5)).off + 4, none⟩ = some (.int .i64 ((rd_Item l0_2 x3_1).f4))) (ds := []) spec_RowOk.m0 (by kernel_rfl) rfl rfl ⟨bc_ BK1077 0, bc_ BK1077 1, bc_ BK1077 2, (hd_ HB hw1078_0), (hd_ HB hw1078_1), (hd_ HB hw1078_2), (hd_ HB hw1078_3), (hd_ HB hw1078_4)⟩ (fun hHeld => ?_); refine with_tabW spec_RowOk.tab4 spec_RowOk.bits4 (fun HT_ HW_ => ?_)
          generalize wc.drew = w24 at BK1077 HB hx1078_0 hx1078_1 hx1078_2 hx1078_3 hx1078_4 hHeld ⊢
          refine pI_ 0 11 HT_ spec_RowOk.m1 rfl rfl ?_
          refine pI_ 2 13 HT_ spec_RowOk.m2 rfl rfl ?_
          refine tk_ 1 12 HT_ HW_ spec_RowOk.m3 rfl rfl hHeld ?_
          refine pI_ 3 14 HT_ spec_RowOk.m4 rfl rfl ?_
          refine tk_ 4 15 HT_ HW_ spec_RowOk.m5 rfl rfl hHeld ?_
          refine on_ 5 16 HT_ spec_RowOk.m6 rfl rfl (fun K hK => ?_)
          refine goes_ Try.func107 (by kernel_rfl) rfl #[.agg #[.int .i64 ((rd_Item l0_2 x3_1).f0), .string ((rd_Item l0_2 x3_1).f1), .string ((rd_Item l0_2 x3_1).f2), .int .i64 ((rd_Item l0_2 x3_1).f3), .int .i64 ((rd_Item l0_2 x3_1).f4)]] (by rfl) rfl rfl sm_ ?_
          with_reducible refine (spec_l3Item.calls kj3 ((rd_Item l0_2 x3_1).f0) ((rd_Item l0_2 x3_1).f1) ((rd_Item l0_2 x3_1).f2) ((rd_Item l0_2 x3_1).f3) ((rd_Item l0_2 x3_1).f4) false _ A10.out).mono ?_
          rintro e w25 ⟨rfl, hb⟩
          refine ⟨_, rfl, ?_⟩
          replace BK1077 := cb_ BK1077 hb
          replace HB := ch_ HB hb
          (try clear hb)
          refine hK.out _ _ ⟨bc_ BK1077 0, bc_ BK1077 1, bc_ BK1077 2, (hd_ HB hw1078_0), (hd_ HB hw1078_1), (hd_ HB hw1078_2), (hd_ HB hw1078_3), (hd_ HB hw1078_4)⟩ (fun hHeld => ?_)
          clear hK K
          refine nm_ ?_
          refine pI_ 6 17 HT_ spec_RowOk.m7 rfl rfl ?_
          refine pI_ 7 18 HT_ spec_RowOk.m8 rfl rfl ?_
          refine pU_ 8 19 HT_ spec_RowOk.m9 rfl rfl ?_
          refine pU_ 9 20 HT_ #[true, true, true, true, true, true, true, true, true, true, false, false, false, false, false, false, false, false, false, false, false, false, false, false, false, false, false, false, false, false, false, false, false, false, false, false, false, false, false, false, false, false] rfl rfl ?_
          refine pU_ 10 21 HT_ #[true, true, true, true, true, true, true, true, true, true, true, false, false, false, false, false, false, false, false, false, false, false, false, false, false, false, false, false, false, false, false, false, false, false, false, false, false, false, false, false, false, false] rfl rfl ?_
          refine pU_ 11 22 HT_ #[true, true, true, true, true, true, true, true, true, true, true, true, false, false, false, false, false, false, false, false, false, false, false, false, false, false, false, false, false, false, false, false, false, false, false, false, false, false, false, false, false, false] rfl rfl ?_
          refine pU_ 12 23 HT_ #[true, true, true, true, true, true, true, true, true, true, true, true, true, false, false, false, false, false, false, false, false, false, false, false, false, false, false, false, false, false, false, false, false, false, false, false, false, false, false, false, false, false] rfl rfl ?_
          refine pU_ 13 24 HT_ #[true, true, true, true, true, true, true, true, true, true, true, true, true, true, false, false, false, false, false, false, false, false, false, false, false, false, false, false, false, false, false, false, false, false, false, false, false, false, false, false, false, false] rfl rfl ?_
          refine pU_ 14 25 HT_ #[true, true, true, true, true, true, true, true, true, true, true, true, true, true, true, false, false, false, false, false, false, false, false, false, false, false, false, false, false, false, false, false, false, false, false, false, false, false, false, false, false, false] rfl rfl ?_
          refine pU_ 15 26 HT_ #[true, true, true, true, true, true, true, true, true, true, true, true, true, true, true, true, false, false, false, false, false, false, false, false, false, false, false, false, false, false, false, false, false, false, false, false, false, false, false, false, false, false] rfl rfl ?_
          refine pU_ 16 27 HT_ spec_RowOk.m17 rfl rfl ?_
          refine pU_ 17 28 HT_ spec_RowOk.m18 rfl rfl ?_
          refine pU_ 18 29 HT_ spec_RowOk.m19 rfl rfl ?_
          refine pU_ 19 30 HT_ spec_RowOk.m20 rfl rfl ?_
          refine pU_ 20 31 HT_ spec_RowOk.m21 rfl rfl ?_
          refine pI_ 21 32 HT_ spec_RowOk.m22 rfl rfl ?_
          refine pI_ 22 33 HT_ spec_RowOk.m23 rfl rfl ?_
          refine pU_ 23 34 HT_ spec_RowOk.m24 rfl rfl ?_
          refine pU_ 24 35 HT_ spec_RowOk.m25 rfl rfl ?_
          refine pU_ 25 36 HT_ spec_RowOk.m26 rfl rfl ?_
          refine pU_ 26 37 HT_ spec_RowOk.m27 rfl rfl ?_
          refine pU_ 27 38 HT_ spec_RowOk.m35 rfl rfl ?_
          refine pU_ 28 39 HT_ spec_RowOk.m36 rfl rfl ?_
          refine pU_ 29 40 HT_ spec_RowOk.m37 rfl rfl ?_
          refine pU_ 30 41 HT_ spec_RowOk.m38 rfl rfl ?_
          refine pU_ 31 42 HT_ spec_RowOk.m39 rfl rfl ?_
          refine pU_ 32 43 HT_ spec_RowOk.m40 rfl rfl ?_
          refine pU_ 33 44 HT_ spec_RowOk.m41 rfl rfl ?_
          refine pU_ 34 45 HT_ spec_RowOk.m42 rfl rfl ?_
          refine pU_ 35 46 HT_ spec_RowOk.m28 rfl rfl ?_
          refine pU_ 36 47 HT_ spec_RowOk.m29 rfl rfl ?_
          refine pU_ 37 48 HT_ spec_RowOk.m30 rfl rfl ?_
          refine pU_ 38 49 HT_ spec_RowOk.m31 rfl rfl ?_
          refine pU_ 39 50 HT_ spec_RowOk.m32 rfl rfl ?_
          refine pU_ 40 51 HT_ spec_RowOk.m33 rfl rfl ?_
          refine pI_ 41 52 HT_ spec_RowOk.m34 rfl rfl ?_
          refine done_ (done_of HT_.out (by kernel_rfl)) ?_
          try go_wp2
          go_meet
          case rel => exact ⟨_, (true), (qa2_), H', ⟨qa13_⟩, ⟨bq_ BK1077.out⟩, ⟨hb_ HB.out⟩⟩
        ·
         rw [if_neg c9] at H
         exact absurd H (by simp)
       ·
        rw [if_neg c8] at H
        exact absurd H (by simp)
      case rest =>
       clear HC7
       obtain ⟨kq, x52_6, rfl, HA, HJ6, BK1077, HB⟩ := hcut
       cases kq with
       | zero => exact absurd HA.out (by simp [spec_RowOk.j2])
       | succ kj6 =>
        have H := HA.out
        clear HA
        simp only [spec_RowOk.j2] at H
        by_cases c26 : x52_6 = true
        ·
         subst c26
         have H1 : (some false) = some r := by rw [if_pos rfl] at H; exact H
         clear H
         have H := H1
         clear H1
         obtain rfl := Option.some.inj H
         go_wp2
         go_ret
         exact ⟨er_, hb_ HB.out⟩
        ·
         replace c26 := Bool.eq_false_iff.mpr c26
         subst c26
         have H1 : (spec_RowOk.l0 kj6 (wrap64 (x3_1 + 1)) a0_0 a0_1 l0_2) = some r := by rw [if_neg (show ¬ (false = true) by decide)] at H; exact H
         clear H
         have H := H1
         clear H1
         have H' := Aside0.mk H
         clear H
         go_wp2
         go_roundg kj6
         case measure => have := HK1.out; have := HJ3.out; have := HJ6.out; omega
         case rel => exact ⟨(wrap64 (x3_1 + 1)), (qa2_), H', ⟨by have := HK1.out; have := HJ3.out; have := HJ6.out; omega⟩, ⟨bq_ BK1077.out⟩, ⟨hb_ HB.out⟩⟩
 case rest =>
  clear HC2
  obtain ⟨kq, HA, HJ1, BK1077, HB⟩ := hcut
  cases kq with
  | zero => exact absurd HA.out (by simp [spec_RowOk.j3])
  | succ kj1 =>
   have H := HA.out
   clear HA
   simp only [spec_RowOk.j3] at H
   replace H := Option.bind_eq_some_iff.mp H
   obtain ⟨t1084, A270, H⟩ := H
   replace H : (if t1084 = true then (if a0_1 ≤ 100000 then (some (decide ((l0_2.length : Int) ≤ 80))) else (some false)) else (some false)) = some r := H
   have A27 := Aside0.mk A270
   clear A270
   by_cases c28 : t1084 = true
   ·
    subst c28
    have H1 : (if a0_1 ≤ 100000 then (some (decide ((l0_2.length : Int) ≤ 80))) else (some false)) = some r := by rw [if_pos rfl] at H; exact H
    clear H
    have H := H1
    clear H1
    by_cases c29 : a0_1 ≤ 100000
    ·
     rw [if_pos c29] at H
     have c29b0 : decide (a0_1 ≤ 100000) = true := decide_eq_true c29
     clear c29
     obtain rfl := Option.some.inj H
     have hcz30_0 : wc.cell? ⟨gb1077, 0, none⟩ = some (.int .i64 a0_0) := bc_ BK1077 0
     have hcz30_1 : wc.cell? ⟨gb1077, 1, none⟩ = some (.int .i64 a0_1) := bc_ BK1077 1
     have hcz30_2 : wc.cell? ⟨gb1077, 2, none⟩ = some (.slice A0_2 l0_2.length c0_2) := bc_ BK1077 2
     have hfz30_0 := blk_frozen BK1077.out 0
     have hfz30_1 := blk_frozen BK1077.out 1
     have hfz30_2 := blk_frozen BK1077.out 2
     go_wp2_with (first | ((with_reducible refine gate_callee (f := 84) rfl ?_); refine goesL_ (some 57) rfl rfl Try.func84 (by kernel_rfl) rfl #[.int .i64 a0_0, .int .i64 0, .int .i64 a0_1] rfl sm_ ?_; (with_reducible refine (spec_l1In.calls a0_0 0 a0_1 true _ A27.out).mono ?_); rintro e w' ⟨rfl, ⟨nd, rfl⟩⟩; refine ⟨_, rfl, ?_⟩))
     go_ret
     exact ⟨er_, hb_ HB.out⟩
    ·
     rw [if_neg c29] at H
     have c29b0 : decide (a0_1 ≤ 100000) = false := decide_eq_false c29
     clear c29
     obtain rfl := Option.some.inj H
     have hcz31_0 : wc.cell? ⟨gb1077, 0, none⟩ = some (.int .i64 a0_0) := bc_ BK1077 0
     have hcz31_1 : wc.cell? ⟨gb1077, 1, none⟩ = some (.int .i64 a0_1) := bc_ BK1077 1
     have hcz31_2 : wc.cell? ⟨gb1077, 2, none⟩ = some (.slice A0_2 l0_2.length c0_2) := bc_ BK1077 2
     have hfz31_0 := blk_frozen BK1077.out 0
     have hfz31_1 := blk_frozen BK1077.out 1
     have hfz31_2 := blk_frozen BK1077.out 2
     go_wp2_with (first | ((with_reducible refine gate_callee (f := 84) rfl ?_); refine goesL_ (some 57) rfl rfl Try.func84 (by kernel_rfl) rfl #[.int .i64 a0_0, .int .i64 0, .int .i64 a0_1] rfl sm_ ?_; (with_reducible refine (spec_l1In.calls a0_0 0 a0_1 true _ A27.out).mono ?_); rintro e w' ⟨rfl, ⟨nd, rfl⟩⟩; refine ⟨_, rfl, ?_⟩))
     go_ret
     exact ⟨er_, hb_ HB.out⟩
   ·
    replace c28 := Bool.eq_false_iff.mpr c28
    subst c28
    have H1 : (some false) = some r := by rw [if_neg (show ¬ (false = true) by decide)] at H; exact H
    clear H
    have H := H1
    clear H1
    obtain rfl := Option.some.inj H
    have hcz32_0 : wc.cell? ⟨gb1077, 0, none⟩ = some (.int .i64 a0_0) := bc_ BK1077 0
    have hcz32_1 : wc.cell? ⟨gb1077, 1, none⟩ = some (.int .i64 a0_1) := bc_ BK1077 1
    have hcz32_2 : wc.cell? ⟨gb1077, 2, none⟩ = some (.slice A0_2 l0_2.length c0_2) := bc_ BK1077 2
    have hfz32_0 := blk_frozen BK1077.out 0
    have hfz32_1 := blk_frozen BK1077.out 1
    have hfz32_2 := blk_frozen BK1077.out 2
    go_wp2_with (first | ((with_reducible refine gate_callee (f := 84) rfl ?_); refine goesL_ (some 57) rfl rfl Try.func84 (by kernel_rfl) rfl #[.int .i64 a0_0, .int .i64 0, .int .i64 a0_1] rfl sm_ ?_; (with_reducible refine (spec_l1In.calls a0_0 0 a0_1 false _ A27.out).mono ?_); rintro e w' ⟨rfl, ⟨nd, rfl⟩⟩; refine ⟨_, rfl, ?_⟩))
    go_ret
    exact ⟨er_, hb_ HB.out⟩
/-! ### spec_l3Copy: function 95 -/
def spec_l3Copy.f (a0_0 : Int) (a0_1 : Int) (l0_2 : List (S_Item)) : Option (Int × Int × (List (S_Item))) := (some (([] : List (S_Item)) : List (S_Item))).bind fun y1087 => (if y1087.length + l0_2.length < 2513169434916 then (some (a0_0, a0_1, (y1087 ++ l0_2))) else (none))
def spec_l3Copy.T1 : Bool × List (List Nat × List Nat) := (true, [([], []), ([0], [0]), ([], []), ([2], [2]), ([], []), ([], []), ([5], [5]), ([4, 6], [4, 6]), ([1, 3, 7], [1, 3, 7]), ([8, 7, 0, 1, 2, 3, 4, 5, 6, 7, 8], [8])])
def spec_l3Copy.B1 : List Nat := [0, 1, 0, 4, 0, 0, 32, 112, 255, 511]
theorem spec_l3Copy.tab1 : rtab .any (opsOf Try.f95 1) = spec_l3Copy.T1 := by kernel_rfl
theorem spec_l3Copy.bits1 : waitsOk spec_l3Copy.T1.2 spec_l3Copy.B1 = true := by kernel_rfl
set_option maxHeartbeats 8000000 in
set_option maxRecDepth 100000 in
theorem spec_l3Copy.calls (a0_0 : Int) (a0_1 : Int) (A0_2 : Option Addr) (c0_2 : Nat) (l0_2 : List (S_Item)) (r1 : Int) (r2 : Int) (r3 : List (S_Item)) (w : World) (hr0_2 : Kd.C k_Item w A0_2 l0_2.length l0_2) (hc0_2 : l0_2.length ≤ c0_2) (h : spec_l3Copy.f a0_0 a0_1 l0_2 = some (r1, r2, r3)) :
    Calls Try.prog 95 #[.agg #[.int .i64 a0_0, .int .i64 a0_1, .slice A0_2 l0_2.length c0_2]] w fun e w' => ∃ v2_ : Value, e = .returned (.agg #[.int .i64 r1, .int .i64 r2, v2_]) ∧ Kd.R k_Item 69 w' w.heap.size (fun _ => True) v2_ r3 ∧ Below w.heap.size w w' := by
  have hu57 := Try.underlying57
  have HR0_2 := Aside0.mk hr0_2
  have HC0_2 := Aside0.mk hc0_2
  clear hr0_2 hc0_2
  have HB := Aside0.mk (Below.refl w.heap.size w)
  have H : ((some (([] : List (S_Item)) : List (S_Item))).bind fun y1087 => (if y1087.length + l0_2.length < 2513169434916 then (some (a0_0, a0_1, (y1087 ++ l0_2))) else (none))) = some (r1, r2, r3) := h
  clear h
  obtain ⟨y1087, hy1087⟩ : ∃ y_ : List (S_Item), y_ = (([] : List (S_Item))) := ⟨_, rfl⟩
  replace H : (if y1087.length + l0_2.length < 2513169434916 then (some (a0_0, a0_1, (y1087 ++ l0_2))) else (none)) = some (r1, r2, r3) := by first | (rw [hy1087]; with_reducible exact H) | (have H2_ := (Option.bind_some _ _).symm.trans H; rw [hy1087]; with_reducible exact H2_) | (have H2_ := (Option.bind_some _ _).symm.trans H; with_reducible exact H2_) | with_reducible exact H | (rw [hy1087]; exact H) | exact H
  have Ny1087 := Aside0.mk hy1087
  clear hy1087
  by_cases c2 : y1087.length + l0_2.length < 2513169434916
  · rw [if_pos c2] at H
    have LMc2 := Aside0.mk c2
    clear c2
    obtain ⟨y1090, hy1090⟩ : ∃ y_ : List (S_Item), y_ = (y1087 ++ l0_2) := ⟨_, rfl⟩
    replace H : (some (a0_0, a0_1, y1090)) = some (r1, r2, r3) := by first | (rw [hy1090]; with_reducible exact H) | (have H2_ := (Option.bind_some _ _).symm.trans H; rw [hy1090]; with_reducible exact H2_) | (have H2_ := (Option.bind_some _ _).symm.trans H; with_reducible exact H2_) | with_reducible exact H | (rw [hy1090]; exact H) | exact H
    have Ny1090 := Aside0.mk hy1090
    clear hy1090
    simp only [Option.some.injEq, Prod.mk.injEq] at H
    obtain ⟨rfl, rfl, rfl⟩ := H
    go_enter Try.func95, Try.ntmps95
    try go_wp2_with (first | ((with_reducible refine gate_dst (N := 1) rfl ?_); refine box_event ?hg (N := 1) ?hd (cs := #[.int .i64 a0_0, .int .i64 a0_1, .slice A0_2 l0_2.length c0_2]) (t := 57) ?hr ?_; (case hd => rfl); (case hg => rfl); (case hr => first | (go_simp; done) | (go_simp; rfl)); intro gb1085 hg w3 hbox hb; have BK1085 := Aside0.mk (hbox); have GW1085 := Aside0.mk ((by rw [hg]; exact (below_size (qa0_)) : w.heap.size ≤ gb1085)); have GE1085 := Aside0.mk ((by rw [hg]; exact (below_size (qa0_)) : w.heap.size ≤ gb1085)); replace HB := Aside0.mk (below_step (qa0_) hb); clear hb hbox hg) | ((with_reducible refine gate_dst (N := 2) rfl ?_); refine box_event ?hg (N := 2) ?hd (cs := #[.int .i64 0, .int .i64 0, .slice none 0 0]) (t := 57) ?hr ?_; (case hd => rfl); (case hg => rfl); (case hr => first | (go_simp; done) | (go_simp; rfl)); intro gb1086 hg w4 hbox hb; have BK1086 := Aside0.mk (hbox); have GW1086 := Aside0.mk ((by rw [hg]; exact (below_size (qa12_)) : w.heap.size ≤ gb1086)); have GE1086 := Aside0.mk ((by rw [hg]; exact (below_size (qa12_)) : w.heap.size ≤ gb1086)); have NB1085_1086 := Aside0.mk ((by rw [hg]; exact Nat.ne_of_lt (blk_lt (g := gb1085) (o := .cells #[.int .i64 a0_0, .int .i64 a0_1, .slice A0_2 l0_2.length c0_2] 57 (0, 0)) (bq_ BK1085.out)) : gb1085 ≠ gb1086)); have NB1086_1085 := Aside0.mk ((by rw [hg]; exact Nat.ne_of_gt (blk_lt (g := gb1085) (o := .cells #[.int .i64 a0_0, .int .i64 a0_1, .slice A0_2 l0_2.length c0_2] 57 (0, 0)) (bq_ BK1085.out)) : gb1086 ≠ gb1085)); replace BK1085 := Aside0.mk (blk_below (g := gb1085) (o := .cells #[.int .i64 a0_0, .int .i64 a0_1, .slice A0_2 l0_2.length c0_2] 57 (0, 0)) (bq_ BK1085.out) hb); replace HB := Aside0.mk (below_step (qa12_) hb); clear hb hbox hg))
    replace BK1085 := Aside0.mk (blk_drew BK1085.out)
    replace BK1086 := Aside0.mk (blk_drew BK1086.out)
    replace HB := Aside0.mk (below_drew1 HB.out)
    refine start_ (n := 10) (S := fun w' => w'.cell? ⟨gb1085, 0, none⟩ = some (.int .i64 a0_0) ∧ w'.cell? ⟨gb1085, 1, none⟩ = some (.int .i64 a0_1) ∧ w'.cell? ⟨gb1085, 2, none⟩ = some (.slice A0_2 l0_2.length c0_2)) (ds := []) #[false, false, false, false, false, false, false, false, false, false] (by kernel_rfl) rfl rfl ⟨bc_ BK1085 0, bc_ BK1085 1, bc_ BK1085 2⟩ (fun hHeld => ?_); refine with_tabW spec_l3Copy.tab1 spec_l3Copy.bits1 (fun HT_ HW_ => ?_)
    generalize w4.drew = w5 at BK1085 BK1086 HB hHeld ⊢
    refine pure_ (i := 0) (N := some 3) (v := ?_) (a' := ?_) #[true, false, false, false, false, false, false, false, false, false] rfl rfl (any_of HT_.out (by kernel_rfl)) (fun _ _ _ h => h) (Or.inl ⟨by rfl, ?_⟩) ?_ ?_
    rotate_left
    · intro w'
      go_simp
      with_reducible rfl
    rotate_left
    · simp only [Act.put, List.setIfInBounds_toArray, List.set_cons_zero, List.set_cons_succ, i64_w, i32_w]
      rfl
    refine pure_ (i := 2) (N := some 5) (v := ?_) (a' := ?_) #[true, false, true, false, false, false, false, false, false, false] rfl rfl (any_of HT_.out (by kernel_rfl)) (fun _ _ _ h => h) (Or.inl ⟨by rfl, ?_⟩) ?_ ?_
    rotate_left
    · intro w'
      go_simp
      with_reducible rfl
    rotate_left
    · simp only [Act.put, List.setIfInBounds_toArray, List.set_cons_zero, List.set_cons_succ, i64_w, i32_w]
      rfl
    refine pure_ (i := 5) (N := some 8) (v := ?_) (a' := ?_) #[true, false, true, false, false, true, false, false, false, false] rfl rfl (any_of HT_.out (by kernel_rfl)) (fun _ _ _ h => h) (Or.inl ⟨by rfl, ?_⟩) ?_ ?_
    rotate_left
    · intro w'
      go_simp
      with_reducible rfl
    rotate_left
    · simp only [Act.put, List.setIfInBounds_toArray, List.set_cons_zero, List.set_cons_succ, i64_w, i32_w]
      rfl
    refine take_ (i := 1) (N := some 4) (v := ?_) (a' := ?_) #[true, true, true, false, false, true, false, false, false, false] rfl rfl (take_ofW HT_.out HW_.out (by kernel_rfl)) (fun _ _ _ h => h) (Or.inl ⟨by rfl, ?_⟩) hHeld ?_ ?_
    rotate_left
    · rintro w' ⟨s0, s1, s2⟩
      go_simp
      with_reducible rfl
    rotate_left
    · simp only [Act.put, List.setIfInBounds_toArray, List.set_cons_zero, List.set_cons_succ, i64_w, i32_w]
      rfl
    refine take_ (i := 3) (N := some 6) (v := ?_) (a' := ?_) #[true, true, true, true, false, true, false, false, false, false] rfl rfl (take_ofW HT_.out HW_.out (by kernel_rfl)) (fun _ _ _ h => h) (Or.inl ⟨by rfl, ?_⟩) hHeld ?_ ?_
    rotate_left
    · rintro w' ⟨s0, s1, s2⟩
      go_simp
      with_reducible rfl
    rotate_left
    · simp only [Act.put, List.setIfInBounds_toArray, List.set_cons_zero, List.set_cons_succ, i64_w, i32_w]
      rfl
    refine take_ (i := 6) (N := some 9) (v := ?_) (a' := ?_) #[true, true, true, true, false, true, true, false, false, false] rfl rfl (take_ofW HT_.out HW_.out (by kernel_rfl)) (fun _ _ _ h => h) (Or.inl ⟨by rfl, ?_⟩) hHeld ?_ ?_
    rotate_left
    · rintro w' ⟨s0, s1, s2⟩
      go_simp
      with_reducible rfl
    rotate_left
    · simp only [Act.put, List.setIfInBounds_toArray, List.set_cons_zero, List.set_cons_succ, i64_w, i32_w]
      rfl
    refine on_ 4 7 HT_ #[true, true, true, true, true, true, true, false, false, false] rfl rfl (fun K hK => ?_)
    refine Kd.R_lit_step k_Item _ 69 ?hg (N := 7) ?hd (xs := ([] : List (S_Item))) (inner := []) (ok := fun _ => True) (okp := fun _ => True) ?hr ?hp (fun _ hk => hk) trivial (Below.refl _ _) (Nat.le_refl _) (by simp) ?_; (case hd => rfl); (case hg => rfl); (case hr => first | (go_simp; done) | (go_simp; rfl)); (case hp => exact (Reps.none _ _))
    intro v1088 w6 ho7 hb hg_ hnew_
    clear hg_ hnew_
    (first | rw [← Ny1087.out] at ho7 | (simp only [Int.reduceToNat] at ho7; rw [← Ny1087.out] at ho7))
    have HO1089 := Aside0.mk (Kd.R_lower ho7 (below_size (qa8_)))
    replace BK1085 := Aside0.mk (blk_below (g := gb1085) (o := .cells #[.int .i64 a0_0, .int .i64 a0_1, .slice A0_2 l0_2.length c0_2] 57 (0, 0)) (bq_ BK1085.out) hb)
    replace BK1086 := Aside0.mk (blk_below (g := gb1086) (o := .cells #[.int .i64 0, .int .i64 0, .slice none 0 0] 57 (0, 0)) (bq_ BK1086.out) hb)
    replace HB := Aside0.mk (below_step (qa8_) hb)
    clear hb ho7
    refine hK.out _ _ ⟨bc_ BK1085 0, bc_ BK1085 1, bc_ BK1085 2⟩ (fun hHeld => ?_)
    clear hK K
    refine norm_ (a' := ?_) ?_ ?_
    rotate_left
    · show Act.put _ (some 7) _ = _
      simp only [Act.put, List.setIfInBounds_toArray, List.set_cons_zero, List.set_cons_succ, i64_w, i32_w]
      rfl
    refine on_ 7 10 HT_ #[true, true, true, true, true, true, true, true, false, false] rfl rfl (fun K hK => ?_)
    refine Kd.R_append_rows_step k_Item (w0 := w) w.heap.size (by rfl) (.tmp 7) (.tmp 9) 55 69 (.agg #[(.int .i64 0), (.string ⟨#[]⟩), (.string ⟨#[]⟩), (.int .i64 0), (.int .i64 0)]) 56 rfl Try.underlying55 info69 rfl (by decide) (by omega) v1088 y1087 l0_2 _ _ _ (fun _ => True) (fun _ => False) rfl rfl ?aO ?aR (fun _ _ h => h) (fun _ h => h.elim) ?aF ?aB ?aS ?aL ?_
    (case aR => repeat (first | exact (Kd.C_below HR0_2.out HB.out) | (with_reducible refine Kd.C_alloc ?_ _) | (with_reducible refine Kd.C_drewN ?_ _) | (with_reducible refine Kd.C_drew ?_)))
    (case aB => exact (qa8_))
    (case aF => exact (fun _ _ => trivial))
    (case aO => exact (by (with_reducible repeat (first | apply Kd.R_alloc | apply Kd.R_drewN | apply Kd.R_drew)); exact HO1089.out))
    (case aS => exact (below_size (qa8_)))
    (case aL => have := LMc2.out; omega)
    intro v1091 w8 ho hb hg hat
    rw [← Ny1090.out] at ho
    have HO1092 := Aside0.mk (ho)
    replace BK1085 := Aside0.mk (blk_grown (g := gb1085) (o := .cells #[.int .i64 a0_0, .int .i64 a0_1, .slice A0_2 l0_2.length c0_2] 57 (0, 0)) (bq_ BK1085.out) hg (Kd.R_ne HO1089.out BK1085.out (by decide)))
    replace BK1086 := Aside0.mk (blk_grown (g := gb1086) (o := .cells #[.int .i64 0, .int .i64 0, .slice none 0 0] 57 (0, 0)) (bq_ BK1086.out) hg (Kd.R_ne HO1089.out BK1086.out (by decide)))
    replace HB := Aside0.mk (hb)
    clear HO1089
    clear ho hb hg hat
    obtain ⟨Ao9, co9, eo9⟩ := Kd.R_slice HO1092.out
    (first | subst eo9 | (injection eo9 with f1_ f2_ f3_; have f4_ := f1_.symm; have f5_ := f3_.symm; clear f1_ f2_ f3_; subst f4_; subst f5_))
    refine hK.out _ _ ⟨bc_ BK1085 0, bc_ BK1085 1, bc_ BK1085 2⟩ (fun hHeld => ?_)
    clear hK K
    refine norm_ (a' := ?_) ?_ ?_
    rotate_left
    · show Act.put _ (some 10) _ = _
      simp only [Act.put, List.setIfInBounds_toArray, List.set_cons_zero, List.set_cons_succ, i64_w, i32_w]
      rfl
    refine pure_ (i := 8) (N := some 11) (v := ?_) (a' := ?_) #[true, true, true, true, true, true, true, true, true, false] rfl rfl (any_of HT_.out (by kernel_rfl)) (fun _ _ _ h => h) (Or.inl ⟨by rfl, ?_⟩) ?_ ?_
    rotate_left
    · intro w'
      go_simp
      with_reducible rfl
    rotate_left
    · simp only [Act.put, List.setIfInBounds_toArray, List.set_cons_zero, List.set_cons_succ, i64_w, i32_w]
      rfl
    refine one_ (i := 9) (N := none) #[true, true, true, true, true, true, true, true, true, true] rfl rfl (one_of HT_.out (by kernel_rfl)) (by decide) (fun K hK => ?_)
    have hs10 : w8.cell? ⟨gb1086, 0, none⟩ = some (.int .i64 0) := bc_ BK1086 0
    have hfs10 := blk_frozen BK1086.out 0
    have hns10_0 := NB1085_1086.out
    have hms10_0 := NB1086_1085.out
    have hs11 : w8.cell? ⟨gb1086, 1, none⟩ = some (.int .i64 0) := bc_ BK1086 1
    have hfs11 := blk_frozen BK1086.out 1
    have hns11_0 := NB1085_1086.out
    have hms11_0 := NB1086_1085.out
    have hs12 : w8.cell? ⟨gb1086, 2, none⟩ = some (.slice none 0 0) := bc_ BK1086 2
    have hfs12 := blk_frozen BK1086.out 2
    have hns12_0 := NB1085_1086.out
    have hms12_0 := NB1086_1085.out
    refine skip_ (w1 := ?_) (by rfl) rfl ?_ ?_
    rotate_left
    · go_simp
      rfl
    refine hK.out _ _ ⟨(cfs_ NB1085_1086.out (hHeld.1)), (cfs_ NB1085_1086.out (hHeld.2.1)), (cfs_ NB1085_1086.out (hHeld.2.2))⟩ (fun hHeld => ?_)
    clear hK K
    refine done_ (done_of HT_.out (by kernel_rfl)) ?_
    try go_wp2
    refine bodyPost_ret (results_cell_row rfl _ _ gb1086 57 #[.int .i64 a0_0, .int .i64 a0_1, .slice Ao9 y1090.length co9] (0, 0) _ rfl (bp_ BK1086.out) Try.underlying57 rfl (by kernel_rfl)) rfl ?_
    exact ⟨_, qa7_, by (with_reducible repeat (first | apply Kd.R_alloc | apply Kd.R_drewN | apply Kd.R_drew)); exact Kd.R_mono (Kd.R_far (p := ⟨gb1086, 2, none⟩) (Kd.R_far (p := ⟨gb1086, 1, none⟩) (Kd.R_far (p := ⟨gb1086, 0, none⟩) (Kd.R_types HO1092.out BK1086.out (by decide)) (fun _ hk => hk.2) (.int .i64 a0_0)) (fun _ hk => hk.2) (.int .i64 a0_1)) (fun _ hk => hk.2) (.slice Ao9 y1090.length co9)) (fun _ hk => trivial), qa8_⟩
  · rw [if_neg c2] at H
    exact absurd H (by simp)

/-! ### spec_l3Behind: function 108 -/
def spec_l3Behind.l0 : Nat → Int → Int → Int → Int → List (S_Item) → Option (Bool)
  | 0, _, _, _, _, _ => none
  | k + 1, x1, x5, x1094000, x1094001, x1094002 => if x5 < (x1094002.length : Int) then (if 0 ≤ x5 then (if 0 ≤ x1 then (if x1 < (x1094002.length : Int) then (if ((rd_Item x1094002 x5).f1).toList = ((rd_Item x1094002 x1).f1).toList then (some true) else (spec_l3Behind.l0 k x1 (wrap64 (x5 + 1)) x1094000 x1094001 x1094002)) else (none)) else (none)) else (none)) else (some false)
def spec_l3Behind.f (k : Nat) (a0_0 : Int) (a0_1 : Int) (l0_2 : List (S_Item)) (a1 : Int) : Option (Bool) := spec_l3Behind.l0 k a1 (wrap64 (a1 + 1)) a0_0 a0_1 l0_2
theorem spec_l3Behind.mono_l : ∀ k, (∀ y0 y1 y2 y3 y4, LeO (spec_l3Behind.l0 k y0 y1 y2 y3 y4) (spec_l3Behind.l0 (k + 1) y0 y1 y2 y3 y4))
  | 0 => fun _ _ _ _ _ r h => by simp [spec_l3Behind.l0] at h
  | k + 1 => by
    have ih0 := spec_l3Behind.mono_l k
    · intro y0 y1 y2 y3 y4
      unfold spec_l3Behind.l0
      exact qah3_
theorem spec_l3Behind.mono : ∀ a0 a1 a2 a3 k, LeO (spec_l3Behind.f k a0 a1 a2 a3) (spec_l3Behind.f (k + 1) a0 a1 a2 a3) := by
  intro a0 a1 a2 a3 k
  have ih0 := spec_l3Behind.mono_l k
  unfold spec_l3Behind.f
  exact qah3_
set_option maxHeartbeats 8000000 in
set_option maxRecDepth 100000 in
theorem spec_l3Behind.calls (k : Nat) (a0_0 : Int) (a0_1 : Int) (A0_2 : Option Addr) (c0_2 : Nat) (l0_2 : List (S_Item)) (a1 : Int) (r : Bool) (w : World) (hr0_2 : Kd.C k_Item w A0_2 l0_2.length l0_2) (hc0_2 : l0_2.length ≤ c0_2) (h : spec_l3Behind.f k a0_0 a0_1 l0_2 a1 = some r) :
    Calls Try.prog 108 #[.agg #[.int .i64 a0_0, .int .i64 a0_1, .slice A0_2 l0_2.length c0_2], .int .i64 a1] w fun e w' => e = .returned (.bool r) ∧ Below w.heap.size w w' := by
  have hu57 := Try.underlying57
  have HR0_2 := Aside0.mk hr0_2
  have HC0_2 := Aside0.mk hc0_2
  clear hr0_2 hc0_2
  have HB := Aside0.mk (Below.refl w.heap.size w)
  have H : (spec_l3Behind.l0 k a1 (wrap64 (a1 + 1)) a0_0 a0_1 l0_2) = some r := h
  clear h
  have H' := Aside0.mk H
  clear H
  go_enter Try.func108, Try.ntmps108
  go_wp2_with (first | (go_quiet (fail)) | ((with_reducible refine gate_dst (N := 2) rfl ?_); refine box_event ?hg (N := 2) ?hd (cs := #[.int .i64 a0_0, .int .i64 a0_1, .slice A0_2 l0_2.length c0_2]) (t := 57) ?hr ?_; (case hd => rfl); (case hg => rfl); (case hr => first | (go_simp; done) | (go_simp; rfl)); intro gb1093 hg w3 hbox hb; have BK1093 := Aside0.mk (hbox); have GW1093 := Aside0.mk ((by rw [hg]; exact (below_size (qa0_)) : w.heap.size ≤ gb1093)); have GE1093 := Aside0.mk ((by rw [hg]; exact (below_size (qa0_)) : w.heap.size ≤ gb1093)); replace HB := Aside0.mk (below_step (qa0_) hb); clear hb hbox hg))
  go_loopg [5] k (fun kq v5 w' => ∃ (x5_1 : Int), v5 = .int .i64 x5_1 ∧ Aside0 (spec_l3Behind.l0 kq a1 x5_1 a0_0 a0_1 l0_2 = some r) ∧ Aside0 (kq ≤ k) ∧ Aside0 (w'.heap[gb1093]? = some (.cells #[.int .i64 a0_0, .int .i64 a0_1, (.slice A0_2 l0_2.length c0_2)] 57 (0, 0))) ∧ Aside0 (Below w.heap.size w w'))
  case atStart => exact ⟨(wrap64 (a1 + 1)), (qa2_), H', ⟨Nat.le_refl _⟩, ⟨bq_ BK1093.out⟩, ⟨qa10_⟩⟩
  case round =>
    clear H'
    try clear c1
    try clear p2
    obtain ⟨x5_1, rfl, HA, HK1, BK1093, HB⟩ := hrel
    cases gk with
    | zero => exact absurd HA.out (by simp [spec_l3Behind.l0])
    | succ k1 =>
      have H := HA.out
      clear HA
      simp only [spec_l3Behind.l0] at H
      by_cases c4 : x5_1 < (l0_2.length : Int)
      · rw [if_pos c4] at H
        have c4b0 : decide (x5_1 < (l0_2.length : Int)) = true := decide_eq_true c4
        clear c4
        by_cases c5 : 0 ≤ x5_1
        · rw [if_pos c5] at H
          have c5b0 : decide (0 ≤ x5_1) = true := decide_eq_true c5
          clear c5
          by_cases c6 : 0 ≤ a1
          · rw [if_pos c6] at H
            have c6b0 : decide (0 ≤ a1) = true := decide_eq_true c6
            clear c6
            by_cases c7 : a1 < (l0_2.length : Int)
            · rw [if_pos c7] at H
              have c7b0 : decide (a1 < (l0_2.length : Int)) = true := decide_eq_true c7
              clear c7
              by_cases c8 : ((rd_Item l0_2 x5_1).f1).toList = ((rd_Item l0_2 a1).f1).toList
              · rw [if_pos c8] at H
                have c8b0 : (((rd_Item l0_2 x5_1).f1).toList == ((rd_Item l0_2 a1).f1).toList) = true := beq_iff_eq.mpr c8
                have c8b1 : (((rd_Item l0_2 x5_1).f1).toList != ((rd_Item l0_2 a1).f1).toList) = false := bne_eq_false_iff_eq.mpr c8
                clear c8
                obtain rfl := Option.some.inj H
                have hcz9_0 : wr.cell? ⟨gb1093, 0, none⟩ = some (.int .i64 a0_0) := bc_ BK1093 0
                have hcz9_1 : wr.cell? ⟨gb1093, 1, none⟩ = some (.int .i64 a0_1) := bc_ BK1093 1
                have hcz9_2 : wr.cell? ⟨gb1093, 2, none⟩ = some (.slice A0_2 l0_2.length c0_2) := bc_ BK1093 2
                have hfz9_0 := blk_frozen BK1093.out 0
                have hfz9_1 := blk_frozen BK1093.out 1
                have hfz9_2 := blk_frozen BK1093.out 2
                have p1094 : 0 ≤ (x5_1 : Int) := of_decide_eq_true dt_
                have q1094 : x5_1 < (l0_2.length : Int) := of_decide_eq_true dt_
                obtain ⟨ad1094, e1094, hx1094_0, hx1094_1, hx1094_2, hx1094_3, hx1094_4⟩ := at_Item HR0_2.out x5_1 p1094 q1094
                cases e1094
                replace hx1094_0 := hc_ HB hx1094_0
                replace hx1094_1 := hc_ HB hx1094_1
                replace hx1094_2 := hc_ HB hx1094_2
                replace hx1094_3 := hc_ HB hx1094_3
                replace hx1094_4 := hc_ HB hx1094_4
                replace p1094 := eq_true p1094
                replace q1094 := eq_true q1094
                have p1095 : 0 ≤ (a1 : Int) := of_decide_eq_true dt_
                have q1095 : a1 < (l0_2.length : Int) := of_decide_eq_true dt_
                obtain ⟨ad1095, e1095, hx1095_0, hx1095_1, hx1095_2, hx1095_3, hx1095_4⟩ := at_Item HR0_2.out a1 p1095 q1095
                obtain rfl : ad1094 = ad1095 := (by injection e1095)
                replace hx1095_0 := hc_ HB hx1095_0
                replace hx1095_1 := hc_ HB hx1095_1
                replace hx1095_2 := hc_ HB hx1095_2
                replace hx1095_3 := hc_ HB hx1095_3
                replace hx1095_4 := hc_ HB hx1095_4
                replace p1095 := eq_true p1095
                replace q1095 := eq_true q1095
                go_wp2
                repeat (go_quiet (fail); try go_wp2)
                go_ret
                exact ⟨qa7_, qa10_⟩
              · rw [if_neg c8] at H
                have c8b0 : (((rd_Item l0_2 x5_1).f1).toList == ((rd_Item l0_2 a1).f1).toList) = false := beq_eq_false_iff_ne.mpr c8
                have c8b1 : (((rd_Item l0_2 x5_1).f1).toList != ((rd_Item l0_2 a1).f1).toList) = true := bne_iff_ne.mpr c8
                have H' := Aside0.mk H
                clear H
                have hcz10_0 : wr.cell? ⟨gb1093, 0, none⟩ = some (.int .i64 a0_0) := bc_ BK1093 0
                have hcz10_1 : wr.cell? ⟨gb1093, 1, none⟩ = some (.int .i64 a0_1) := bc_ BK1093 1
                have hcz10_2 : wr.cell? ⟨gb1093, 2, none⟩ = some (.slice A0_2 l0_2.length c0_2) := bc_ BK1093 2
                have hfz10_0 := blk_frozen BK1093.out 0
                have hfz10_1 := blk_frozen BK1093.out 1
                have hfz10_2 := blk_frozen BK1093.out 2
                have p1094 : 0 ≤ (x5_1 : Int) := of_decide_eq_true dt_
                have q1094 : x5_1 < (l0_2.length : Int) := of_decide_eq_true dt_
                obtain ⟨ad1094, e1094, hx1094_0, hx1094_1, hx1094_2, hx1094_3, hx1094_4⟩ := at_Item HR0_2.out x5_1 p1094 q1094
                cases e1094
                replace hx1094_0 := hc_ HB hx1094_0
                replace hx1094_1 := hc_ HB hx1094_1
                replace hx1094_2 := hc_ HB hx1094_2
                replace hx1094_3 := hc_ HB hx1094_3
                replace hx1094_4 := hc_ HB hx1094_4
                replace p1094 := eq_true p1094
                replace q1094 := eq_true q1094
                have p1095 : 0 ≤ (a1 : Int) := of_decide_eq_true dt_
                have q1095 : a1 < (l0_2.length : Int) := of_decide_eq_true dt_
                obtain ⟨ad1095, e1095, hx1095_0, hx1095_1, hx1095_2, hx1095_3, hx1095_4⟩ := at_Item HR0_2.out a1 p1095 q1095
                obtain rfl : ad1094 = ad1095 := (by injection e1095)
                replace hx1095_0 := hc_ HB hx1095_0
                replace hx1095_1 := hc_ HB hx1095_1
                replace hx1095_2 := hc_ HB hx1095_2
                replace hx1095_3 := hc_ HB hx1095_3
                replace hx1095_4 := hc_ HB hx1095_4
                replace p1095 := eq_true p1095
                replace q1095 := eq_true q1095
                go_wp2
                repeat (go_quiet (fail); try go_wp2)
                go_roundg k1
                case measure => have := HK1.out; omega
                case rel => exact ⟨(wrap64 (x5_1 + 1)), (qa2_), H', ⟨by have := HK1.out; omega⟩, ⟨bq_ BK1093.out⟩, ⟨qa10_⟩⟩
            · rw [if_neg c7] at H
              exact absurd H (by simp)
          · rw [if_neg c6] at H
            exact absurd H (by simp)
        · rw [if_neg c5] at H
          exact absurd H (by simp)
      · rw [if_neg c4] at H
        have c4b0 : decide (x5_1 < (l0_2.length : Int)) = false := decide_eq_false c4
        clear c4
        obtain rfl := Option.some.inj H
        have hcz11_0 : wr.cell? ⟨gb1093, 0, none⟩ = some (.int .i64 a0_0) := bc_ BK1093 0
        have hcz11_1 : wr.cell? ⟨gb1093, 1, none⟩ = some (.int .i64 a0_1) := bc_ BK1093 1
        have hcz11_2 : wr.cell? ⟨gb1093, 2, none⟩ = some (.slice A0_2 l0_2.length c0_2) := bc_ BK1093 2
        have hfz11_0 := blk_frozen BK1093.out 0
        have hfz11_1 := blk_frozen BK1093.out 1
        have hfz11_2 := blk_frozen BK1093.out 2
        go_wp2
        repeat (go_quiet (fail); try go_wp2)
        go_ret
        exact ⟨qa7_, qa10_⟩
end Go.Proofs.Ytiknkolclcdajaa.Q
