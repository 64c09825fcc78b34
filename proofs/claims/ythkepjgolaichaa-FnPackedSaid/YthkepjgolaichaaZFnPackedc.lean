/- Made by a program of ours out of the print of the loaded functions: for each of some functions a plain function, and the walk that shows that a call comes to what it says. No condition but those of each theorem. -/
import Derived.Test.YthkepjgolaichaaZFnPacked0
import Derived.Test.YthkepjgolaichaaZFnPackeda
namespace Go.Proofs.Ythkepjgolaichaa.Q
open Go.RowKit Go.Proofs.YthkepjgolaichaaW.PrintWords Go.Proofs.YthkepjgolaichaaW.PrintLast Go.Proofs.YthkepjgolaichaaW.PrintMore
attribute [local go_sem] max2_int min2_int max_two min_two max_three min_three max_four min_four   -- for this text's walks alone
set_option linter.unusedVariables false
set_option linter.unusedSimpArgs false
theorem qc0_ {P : Prop} (h : P := by repeat (first | (with_reducible first | exact HB.out | apply below_alloc | apply pw_below_drewN | apply below_drew1) | exact HB.out)) : P := h
theorem qc1_ {P : Prop} (h : P := by repeat (first | (with_reducible first | exact HK.out | apply KeepBut.set_ | apply keep_drewN | apply keep_drew | apply keep_alloc) | exact HK.out)) : P := h
theorem qc2_ {P : Prop} (h : P := by (try simp only [List.map_toArray, List.map_cons, List.map_nil]); first | done | rfl | (simp only [List.length_drop, List.length_take]; rfl)) : P := h
theorem qc3_ {P : Prop} (h : P := by repeat (first | (with_reducible first | exact HI0.out | apply IsS_l1Cur.alloc | apply IsS_l1Cur.drewN | apply IsS_l1Cur.drew | apply IsS_l1Cur.set_1 | apply IsS_l1Cur.set_2) | exact HI0.out)) : P := h
theorem qc4_ {P : Prop} (h : P := by first | rfl | (simp [errW_none, errW_some] <;> rfl) | (simp [*, errW_none, errW_some] <;> rfl)) : P := h
theorem qc5_ {P : Prop} (h : P := by repeat (first | (with_reducible first | exact HB.out | apply below_alloc | apply pw_below_drewN | apply below_drew1 | refine below_set ?_ (IsS_l1Cur.ge HI0.out)) | exact HB.out)) : P := h
theorem qc6_ {P : Prop} (h : P := by repeat (first | (with_reducible first | exact HB.out | apply below_alloc | apply pw_below_drewN | apply below_drew1 | refine below_set ?_ GE472.out | refine below_set ?_ GE473.out) | exact HB.out)) : P := h
theorem qc7_ {P : Prop} (h : P := by repeat (first | (with_reducible first | exact HBW.out | apply below_alloc | apply pw_below_drewN | apply below_drew1) | exact HBW.out)) : P := h
theorem qc8_ {P : Prop} (h : P := by repeat (first | (with_reducible first | exact HB.out | apply below_alloc | apply pw_below_drewN | apply below_drew1 | refine below_set ?_ GE480.out) | exact HB.out)) : P := h
theorem qc9_ {P : Prop} (h : P := by first | rfl | (simp; done) | (simp [*]; done)) : P := h
theorem qc10_ {P : Prop} (h : P := by repeat (first | (with_reducible first | exact HB.out | apply below_alloc | apply pw_below_drewN | apply below_drew1 | refine below_set ?_ GE472.out) | exact HB.out)) : P := h
theorem qc11_ {P : Prop} (h : P := by have := HK1.out; have := HJ3.out; first | omega | exact Nat.le_refl _) : P := h

def IsS_l1Cur (w0 W : World) (g : Nat) (f0 : List Int) (f1 : Int) (f2 : Int) : Prop := ∃ A0 c0, W.heap[g]? = some (.cells #[.slice A0 f0.length c0, .int .i64 f1, .int .i64 f2] 99 (0, 0)) ∧ w0.heap.size ≤ g ∧ (Kd.C (Kd.int .u8) w0 A0 f0.length f0 ∧ f0.length ≤ c0)
theorem IsS_l1Cur.grown {w0 W : World} {g : Nat} {f0 : List Int} {f1 : Int} {f2 : Int} {W1 : World} {row : Option Nat} (h : IsS_l1Cur w0 W g f0 f1 f2) (hw : W.grownBy W1 row) (hne : some g ≠ row) : IsS_l1Cur w0 W1 g f0 f1 f2 := by
  obtain ⟨A0, c0, hb, hg, ⟨hr0, hz0⟩⟩ := h
  exact ⟨A0, c0, blk_grown hb hw hne, hg, ⟨hr0, hz0⟩⟩
theorem IsS_l1Cur.own_neN {w0 W : World} {g : Nat} {f0 : List Int} {f1 : Int} {f2 : Int} {α : Type} {d : Kd α} {e : Nat} {base : Nat} {ok : Nat → Prop} {v : Value} {xs : List α} (h : IsS_l1Cur w0 W g f0 f1 f2) (ho : Kd.N d e W base ok v xs) (ht : e ≠ 99) : some g ≠ v.ownBlock := by
  obtain ⟨A0, c0, hb, hg, ⟨hr0, hz0⟩⟩ := h
  exact Kd.N_ne ho hb ht
theorem IsS_l1Cur.fresh {w0 W : World} {g : Nat} {f0 : List Int} {f1 : Int} {f2 : Int} (h : IsS_l1Cur w0 W g f0 f1 f2) : ∀ k, W.heap.size ≤ k → k ≠ g := by
  obtain ⟨A0, c0, hb, hg, ⟨hr0, hz0⟩⟩ := h
  exact Kd.freshB hb
theorem IsS_l1Cur.kept {w0 W : World} {g : Nat} {f0 : List Int} {f1 : Int} {f2 : Int} {W1 : World} {S : Nat → Prop} (h : IsS_l1Cur w0 W g f0 f1 f2) (hk : Kept W W1 S) (hne : ¬ S g) : IsS_l1Cur w0 W1 g f0 f1 f2 := by
  obtain ⟨A0, c0, hb, hg, ⟨hr0, hz0⟩⟩ := h
  exact ⟨A0, c0, blk_kept hb hk hne, hg, ⟨hr0, hz0⟩⟩
theorem IsS_l1Cur.below {w0 W : World} {g : Nat} {f0 : List Int} {f1 : Int} {f2 : Int} {W1 : World} (h : IsS_l1Cur w0 W g f0 f1 f2) (hw : Below W.heap.size W W1) : IsS_l1Cur w0 W1 g f0 f1 f2 := h.grown (grown_of_below hw none) (by simp)
theorem IsS_l1Cur.alloc {w0 W : World} {g : Nat} {f0 : List Int} {f1 : Int} {f2 : Int} (h : IsS_l1Cur w0 W g f0 f1 f2) (o : Obj) : IsS_l1Cur w0 (W.alloc o) g f0 f1 f2 := h.below (below_alloc (Below.refl _ _) o)
theorem IsS_l1Cur.drewN {w0 W : World} {g : Nat} {f0 : List Int} {f1 : Int} {f2 : Int} (h : IsS_l1Cur w0 W g f0 f1 f2) (m : Nat) : IsS_l1Cur w0 (W.drewN m) g f0 f1 f2 := h
theorem IsS_l1Cur.drew {w0 W : World} {g : Nat} {f0 : List Int} {f1 : Int} {f2 : Int} (h : IsS_l1Cur w0 W g f0 f1 f2) : IsS_l1Cur w0 W.drew g f0 f1 f2 := h
theorem IsS_l1Cur.at_ {w0 W : World} {g : Nat} {f0 : List Int} {f1 : Int} {f2 : Int} {w' : World} {m : Nat} (hq : W.drewN m = w') (h : IsS_l1Cur w0 W g f0 f1 f2) : IsS_l1Cur w0 w' g f0 f1 f2 := by subst hq; exact IsS_l1Cur.drewN h m
theorem IsS_l1Cur.apart {w0 W : World} {g : Nat} {f0 : List Int} {f1 : Int} {f2 : Int} {α : Type} {d : Kd α} {e : Nat} {base : Nat} {ok : Nat → Prop} {v : Value} {xs : List α} (h : IsS_l1Cur w0 W g f0 f1 f2) (ho : d.R e W base ok v xs) (ht : ∀ q, q ∈ e :: d.E → q ≠ 99) : d.R e W base (fun k => ok k ∧ k ≠ g) v xs := by
  obtain ⟨A0, c0, hb, hg, ⟨hr0, hz0⟩⟩ := h
  exact Kd.R_types ho hb ht
theorem IsS_l1Cur.own_ne {w0 W : World} {g : Nat} {f0 : List Int} {f1 : Int} {f2 : Int} {α : Type} {d : Kd α} {e : Nat} {base : Nat} {ok : Nat → Prop} {v : Value} {xs : List α} (h : IsS_l1Cur w0 W g f0 f1 f2) (ho : d.R e W base ok v xs) (ht : e ≠ 99) : some g ≠ v.ownBlock := by
  obtain ⟨A0, c0, hb, hg, ⟨hr0, hz0⟩⟩ := h
  exact Kd.R_ne ho hb ht
theorem IsS_l1Cur.apartQ {w0 W : World} {g : Nat} {f0 : List Int} {f1 : Int} {f2 : Int} {α : Type} {d : Kd α} {e : Nat} {base : Nat} {ok : Nat → Prop} {v : Value} {xs : List α} (h : IsS_l1Cur w0 W g f0 f1 f2) (ho : d.Q e W base ok v xs) (ht : ∀ q, q ∈ e :: d.E → q ≠ 99) : d.Q e W base (fun k => ok k ∧ k ≠ g) v xs := by
  obtain ⟨A0, c0, hb, hg, ⟨hr0, hz0⟩⟩ := h
  exact Kd.Q_types ho hb ht
theorem IsS_l1Cur.own_neQ {w0 W : World} {g : Nat} {f0 : List Int} {f1 : Int} {f2 : Int} {α : Type} {d : Kd α} {e : Nat} {base : Nat} {ok : Nat → Prop} {v : Value} {xs : List α} (h : IsS_l1Cur w0 W g f0 f1 f2) (ho : d.Q e W base ok v xs) (ht : e ≠ 99) : some g ≠ v.ownBlock := by
  obtain ⟨A0, c0, hb, hg, ⟨hr0, hz0⟩⟩ := h
  exact Kd.Q_ne ho hb ht
theorem IsS_l1Cur.apartS {w0 W : World} {g : Nat} {f0 : List Int} {f1 : Int} {f2 : Int} {α : Type} {d : Kd α} {e : Nat} {base : Nat} {ok : Nat → Prop} {v : Value} {xs : List α} (h : IsS_l1Cur w0 W g f0 f1 f2) (ho : d.S e W base ok v xs) (ht : ∀ q, q ∈ e :: d.E → q ≠ 99) : d.S e W base (fun k => ok k ∧ k ≠ g) v xs := by
  obtain ⟨A0, c0, hb, hg, ⟨hr0, hz0⟩⟩ := h
  exact Kd.S_types ho hb ht
theorem IsS_l1Cur.own_neS {w0 W : World} {g : Nat} {f0 : List Int} {f1 : Int} {f2 : Int} {α : Type} {d : Kd α} {e : Nat} {base : Nat} {ok : Nat → Prop} {v : Value} {xs : List α} (h : IsS_l1Cur w0 W g f0 f1 f2) (ho : d.S e W base ok v xs) (ht : e ≠ 99) : some g ≠ v.ownBlock := by
  obtain ⟨A0, c0, hb, hg, ⟨hr0, hz0⟩⟩ := h
  exact Kd.S_ne ho hb ht
theorem IsS_l1Cur.lt {w0 W : World} {g : Nat} {f0 : List Int} {f1 : Int} {f2 : Int} (h : IsS_l1Cur w0 W g f0 f1 f2) : g < W.heap.size := by
  obtain ⟨A0, c0, hb, hg, ⟨hr0, hz0⟩⟩ := h
  exact blk_lt hb
theorem IsS_l1Cur.ge {w0 W : World} {g : Nat} {f0 : List Int} {f1 : Int} {f2 : Int} (h : IsS_l1Cur w0 W g f0 f1 f2) : w0.heap.size ≤ g := by
  obtain ⟨A0, c0, hb, hg, ⟨hr0, hz0⟩⟩ := h
  exact hg
theorem IsS_l1Cur.ne_blk {w0 W : World} {g : Nat} {f0 : List Int} {f1 : Int} {f2 : Int} {a : Nat} {cs : Array Value} {t : TypeId} {fr : Nat × Nat} (h : IsS_l1Cur w0 W g f0 f1 f2) (hb2 : W.heap[a]? = some (.cells cs t fr)) (ht : t ≠ 99) : g ≠ a := by
  obtain ⟨A0, c0, hb, hg, ⟨hr0, hz0⟩⟩ := h
  rintro rfl
  rw [hb] at hb2
  injection hb2 with hb2
  injection hb2 with _ ht2
  exact ht ht2.symm
theorem IsS_l1Cur.far {w0 W : World} {g : Nat} {f0 : List Int} {f1 : Int} {f2 : Int} {p : Addr} (h : IsS_l1Cur w0 W g f0 f1 f2) (hne : g ≠ p.block) (u : Value) : IsS_l1Cur w0 (W.setCell p u) g f0 f1 f2 := by
  obtain ⟨A0, c0, hb, hg, ⟨hr0, hz0⟩⟩ := h
  exact ⟨A0, c0, blk_far hb hne u, hg, ⟨hr0, hz0⟩⟩
theorem cellS99_0 {W : World} {g : Nat} {A0 : Option Addr} {c0 : Nat} {f0 : List Int} {f1 : Int} {f2 : Int} (h : W.heap[g]? = some (.cells #[.slice A0 f0.length c0, .int .i64 f1, .int .i64 f2] 99 (0, 0))) : W.cell? ⟨g, 0, none⟩ = some (.slice A0 f0.length c0) := (blk_cell h 0).trans rfl
theorem cellS99_1 {W : World} {g : Nat} {A0 : Option Addr} {c0 : Nat} {f0 : List Int} {f1 : Int} {f2 : Int} (h : W.heap[g]? = some (.cells #[.slice A0 f0.length c0, .int .i64 f1, .int .i64 f2] 99 (0, 0))) : W.cell? ⟨g, 1, none⟩ = some (.int .i64 f1) := (blk_cell h 1).trans rfl
theorem IsS_l1Cur.set_1 {w0 W : World} {g : Nat} {f0 : List Int} {f1 : Int} {f2 : Int} (h : IsS_l1Cur w0 W g f0 f1 f2) (x : Int) : IsS_l1Cur w0 (W.setCell ⟨g, 1, none⟩ (.int .i64 x)) g f0 x f2 := by
  obtain ⟨A0, c0, hb, hg, ⟨hr0, hz0⟩⟩ := h
  exact ⟨A0, c0, by simpa using blk_set hb 1 (.int .i64 x), hg, ⟨hr0, hz0⟩⟩
theorem cellS99_2 {W : World} {g : Nat} {A0 : Option Addr} {c0 : Nat} {f0 : List Int} {f1 : Int} {f2 : Int} (h : W.heap[g]? = some (.cells #[.slice A0 f0.length c0, .int .i64 f1, .int .i64 f2] 99 (0, 0))) : W.cell? ⟨g, 2, none⟩ = some (.int .i64 f2) := (blk_cell h 2).trans rfl
theorem IsS_l1Cur.set_2 {w0 W : World} {g : Nat} {f0 : List Int} {f1 : Int} {f2 : Int} (h : IsS_l1Cur w0 W g f0 f1 f2) (x : Int) : IsS_l1Cur w0 (W.setCell ⟨g, 2, none⟩ (.int .i64 x)) g f0 f1 x := by
  obtain ⟨A0, c0, hb, hg, ⟨hr0, hz0⟩⟩ := h
  exact ⟨A0, c0, by simpa using blk_set hb 2 (.int .i64 x), hg, ⟨hr0, hz0⟩⟩
theorem IsS_l1Cur.new (w0 W : World) (A0 : Option Addr) (c0 : Nat) (f0 : List Int) (f1 : Int) (f2 : Int) (hB : Below w0.heap.size w0 W) (hr0 : Kd.C (Kd.int .u8) w0 A0 f0.length f0) (hz0 : f0.length ≤ c0) : IsS_l1Cur w0 (W.alloc (.cells #[.slice A0 f0.length c0, .int .i64 f1, .int .i64 f2] 99)) W.heap.size f0 f1 f2 := ⟨A0, c0, by simpa using heap_alloc_new W _, hB.size, ⟨hr0, hz0⟩⟩

theorem is_l1Cur_ {w0 W W' : World} {g : Nat} {f0 f0' : List Int} {f1 f2 f1' f2' : Int} (x : IsS_l1Cur w0 W g f0 f1 f2) (h : IsS_l1Cur w0 W g f0 f1 f2 → IsS_l1Cur w0 W' g f0' f1' f2' := by intro h_; repeat (first | (with_reducible first | exact h_ | apply IsS_l1Cur.alloc | apply IsS_l1Cur.drewN | apply IsS_l1Cur.drew | apply IsS_l1Cur.set_1 | apply IsS_l1Cur.set_2 | refine IsS_l1Cur.far ?_ (Aside0.out (by assumption)) _) | exact h_)) : IsS_l1Cur w0 W' g f0' f1' f2' := h x
theorem hi_ {B : Nat} {w W W' : World} (x : Below B w W) (h : Below B w W → Below B w W' := by intro h_; repeat (first | (with_reducible first | exact h_ | apply below_alloc | apply pw_below_drewN | apply below_drew1 | refine below_set ?_ (Aside0.out (by assumption)) | refine below_set ?_ (IsS_l1Cur.ge (Aside0.out (by assumption)))) | exact h_)) : Below B w W' := h x
/-! ### spec_l1New: function 62 -/
def spec_l1New.l0 : Nat → List Int → Int → Int → Option (List Int × Int × Int)
  | 0, _, _, _ => none
  | k + 1, x0, x3, x4 => if x4 < (x0.length : Int) then (if x4 < 4000 then (if 0 ≤ x4 then (spec_l1New.l0 k x0 (Go.bits .and .i64 (wrap64 ((wrap64 ((wrap64 (x3 * 131)) + (wrap64 (rd x0 x4)))) + 7)) 1073741823) (wrap64 (x4 + 1))) else (none)) else (some (x0, 0, x3))) else (some (x0, 0, x3))
def spec_l1New.f (k : Nat) (l0 : List Int) : Option (List Int × Int × Int) := spec_l1New.l0 k l0 (wrap64 (24548 + (l0.length : Int))) 0
theorem spec_l1New.mono_l : ∀ k, (∀ y0 y1 y2, LeO (spec_l1New.l0 k y0 y1 y2) (spec_l1New.l0 (k + 1) y0 y1 y2))
  | 0 => fun _ _ _ r h => by simp [spec_l1New.l0] at h
  | k + 1 => by
    have ih0 := spec_l1New.mono_l k
    · intro y0 y1 y2
      unfold spec_l1New.l0
      repeat' first
      | (with_reducible exact ih0 _ _ _)
      | (with_reducible exact LeO.refl _)
      | (with_reducible exact LeO.none _)
      | (with_reducible refine LeO.ite ?_ ?_)
      | (with_reducible refine LeO.bind ?_ (fun _ => ?_))
      | exact ih0 _ _ _
      | exact LeO.none _
      | refine LeO.ite ?_ ?_
      | refine LeO.bind ?_ (fun _ => ?_)
theorem spec_l1New.mono : ∀ a0 k, LeO (spec_l1New.f k a0) (spec_l1New.f (k + 1) a0) := by
  intro a0 k
  have ih0 := spec_l1New.mono_l k
  unfold spec_l1New.f
  repeat' first
      | (with_reducible exact ih0 _ _ _)
      | (with_reducible exact LeO.refl _)
      | (with_reducible exact LeO.none _)
      | (with_reducible refine LeO.ite ?_ ?_)
      | (with_reducible refine LeO.bind ?_ (fun _ => ?_))
      | exact ih0 _ _ _
      | exact LeO.none _
      | refine LeO.ite ?_ ?_
      | refine LeO.bind ?_ (fun _ => ?_)
set_option maxHeartbeats 8000000 in
set_option maxRecDepth 100000 in
theorem spec_l1New.calls (k : Nat) (A0 : Option Addr) (c0 : Nat) (l0 : List Int) (r1 : List Int) (r2 : Int) (r3 : Int) (w0 w : World) (hB : Below w0.heap.size w0 w) (hr0 : Kd.C (Kd.int .u8) w0 A0 l0.length l0) (hc0 : l0.length ≤ c0) (h : spec_l1New.f k l0 = some (r1, r2, r3)) :
    Calls Try.prog 62 #[.slice A0 l0.length c0] w fun e w' => ∃ g_ : Nat, e = .returned (.pointer (some ⟨g_, 0, none⟩)) ∧ IsS_l1Cur w0 w' g_ r1 r2 r3 ∧ Below w0.heap.size w0 w' ∧ Below w.heap.size w w' := by
  have hu99 := Try.underlying99
  have HR0 := Aside0.mk hr0
  have HC0 := Aside0.mk hc0
  clear hr0 hc0
  have HBW := Aside0.mk (Below.refl w.heap.size w)
  have HW0 := Aside0.mk hB.size
  have HB := Aside0.mk hB
  clear hB
  have H : (spec_l1New.l0 k l0 (wrap64 (24548 + (l0.length : Int))) 0) = some (r1, r2, r3) := h
  clear h
  have H' := Aside0.mk H
  clear H
  go_enter Try.func62, Try.ntmps62
  go_wp2
  go_loopg [3, 4] k (fun kq v3 v4 w' => ∃ (x3_1 : Int) (x4_1 : Int), v3 = .int .i64 x3_1 ∧ v4 = .int .i64 x4_1 ∧ Aside0 (spec_l1New.l0 kq l0 x3_1 x4_1 = some (r1, r2, r3)) ∧ Aside0 (kq ≤ k) ∧ Aside0 (Below w.heap.size w w') ∧ Aside0 (Below w0.heap.size w0 w'))
  case atStart => exact ⟨(wrap64 (24548 + (l0.length : Int))), (0), (qc9_), (qc9_), H', ⟨Nat.le_refl _⟩, ⟨qc7_⟩, ⟨qc0_⟩⟩
  case round =>
    clear H'
    obtain ⟨x3_1, x4_1, rfl, rfl, HA, HK1, HBW, HB⟩ := hrel
    cases gk with
    | zero => exact absurd HA.out (by simp [spec_l1New.l0])
    | succ k1 =>
      have H := HA.out
      clear HA
      simp only [spec_l1New.l0] at H
      by_cases c2 : x4_1 < (l0.length : Int)
      · rw [if_pos c2] at H
        have c2b0 : decide (x4_1 < (l0.length : Int)) = true := decide_eq_true c2
        clear c2
        by_cases c3 : x4_1 < 4000
        · rw [if_pos c3] at H
          have c3b0 : decide (x4_1 < 4000) = true := decide_eq_true c3
          clear c3
          by_cases c4 : 0 ≤ x4_1
          · rw [if_pos c4] at H
            have c4b0 : decide (0 ≤ x4_1) = true := decide_eq_true c4
            clear c4
            have H' := Aside0.mk H
            clear H
            have p449 : 0 ≤ (x4_1 : Int) := of_decide_eq_true dt_
            have q449 : x4_1 < (l0.length : Int) := of_decide_eq_true dt_
            obtain ⟨ad449, e449, hx449_0⟩ := Kd.at_int HR0.out x4_1 p449 q449
            cases e449
            replace hx449_0 := pw_cell_below HB.out hx449_0
            replace p449 := eq_true p449
            replace q449 := eq_true q449
            go_wp2
            go_roundg k1
            case measure => have := HK1.out; omega
            case rel => exact ⟨(Go.bits .and .i64 (wrap64 ((wrap64 ((wrap64 (x3_1 * 131)) + (wrap64 (rd l0 x4_1)))) + 7)) 1073741823), (wrap64 (x4_1 + 1)), (qc9_), (qc9_), H', ⟨by have := HK1.out; omega⟩, ⟨qc7_⟩, ⟨qc0_⟩⟩
          · rw [if_neg c4] at H
            exact absurd H (by simp)
        · rw [if_neg c3] at H
          have c3b0 : decide (x4_1 < 4000) = false := decide_eq_false c3
          clear c3
          simp only [Option.some.injEq, Prod.mk.injEq] at H
          obtain ⟨rfl, rfl, rfl⟩ := H
          go_wp2_with (first | ((with_reducible refine gate_dst (N := 31) rfl ?_); refine box_event ?hg (N := 31) ?hd (cs := #[.slice A0 l0.length c0, .int .i64 0, .int .i64 x3_1]) (t := 99) ?hr ?_; (case hd => rfl); (case hg => rfl); (case hr => first | (go_simp; done) | (go_simp; rfl)); intro gb450 hg w5 hbox hb; have n0_ := Aside0.mk (below_step HBW.out hb); have n1_ := Aside0.mk (below_step (qc0_) hb); have n2_ := Aside0.mk (hbox); have n3_ := Aside0.mk ((by rw [hg]; exact (below_size (qc7_)) : w.heap.size ≤ gb450)); have n4_ := Aside0.mk ((Nat.le_trans HW0.out (by rw [hg]; exact (below_size (qc7_)) : w.heap.size ≤ gb450) : w0.heap.size ≤ gb450)); clear HBW; clear HB; have HBW := n0_; have HB := n1_; have BK450 := n2_; have GW450 := n3_; have GE450 := n4_; clear n0_ n1_ n2_ n3_ n4_; clear hb hbox hg))
          go_ret
          exact ⟨_, rfl, (show IsS_l1Cur w0 _ gb450 l0 0 x3_1 from ⟨_, _, by (with_reducible repeat (first | refine blk_drewN ?_ _ | refine blk_drew ?_ | refine blk_alloc ?_ _)); exact BK450.out, GE450.out, ⟨HR0.out, HC0.out⟩⟩), by repeat (first | (with_reducible first | exact HB.out | apply below_alloc | apply pw_below_drewN | apply below_drew1 | refine below_set ?_ GE450.out) | exact HB.out), by repeat (first | (with_reducible first | exact HBW.out | apply below_alloc | apply pw_below_drewN | apply below_drew1 | refine below_set ?_ GW450.out) | exact HBW.out)⟩
      · rw [if_neg c2] at H
        have c2b0 : decide (x4_1 < (l0.length : Int)) = false := decide_eq_false c2
        clear c2
        simp only [Option.some.injEq, Prod.mk.injEq] at H
        obtain ⟨rfl, rfl, rfl⟩ := H
        go_wp2_with (first | ((with_reducible refine gate_dst (N := 31) rfl ?_); refine box_event ?hg (N := 31) ?hd (cs := #[.slice A0 l0.length c0, .int .i64 0, .int .i64 x3_1]) (t := 99) ?hr ?_; (case hd => rfl); (case hg => rfl); (case hr => first | (go_simp; done) | (go_simp; rfl)); intro gb451 hg w6 hbox hb; have n0_ := Aside0.mk (below_step HBW.out hb); have n1_ := Aside0.mk (below_step (qc0_) hb); have n2_ := Aside0.mk (hbox); have n3_ := Aside0.mk ((by rw [hg]; exact (below_size (qc7_)) : w.heap.size ≤ gb451)); have n4_ := Aside0.mk ((Nat.le_trans HW0.out (by rw [hg]; exact (below_size (qc7_)) : w.heap.size ≤ gb451) : w0.heap.size ≤ gb451)); clear HBW; clear HB; have HBW := n0_; have HB := n1_; have BK451 := n2_; have GW451 := n3_; have GE451 := n4_; clear n0_ n1_ n2_ n3_ n4_; clear hb hbox hg))
        go_ret
        exact ⟨_, rfl, (show IsS_l1Cur w0 _ gb451 l0 0 x3_1 from ⟨_, _, by (with_reducible repeat (first | refine blk_drewN ?_ _ | refine blk_drew ?_ | refine blk_alloc ?_ _)); exact BK451.out, GE451.out, ⟨HR0.out, HC0.out⟩⟩), by repeat (first | (with_reducible first | exact HB.out | apply below_alloc | apply pw_below_drewN | apply below_drew1 | refine below_set ?_ GE451.out) | exact HB.out), by repeat (first | (with_reducible first | exact HBW.out | apply below_alloc | apply pw_below_drewN | apply below_drew1 | refine below_set ?_ GW451.out) | exact HBW.out)⟩

/-! ### spec_l1Byte: function 85 -/
def spec_l1Byte.f (s0_0 : List Int) (s0_1 : Int) (s0_2 : Int) : Option (Int × Int × Int) := if s0_1 < (s0_0.length : Int) then (if 0 ≤ s0_1 then (some (Go.bits .and .i64 (wrap64 ((Go.bits .and .i64 (Go.bits .xor .i64 ((wrap64 ((wrap64 (s0_2 * 6364136223846793005)) + 1442695040888963407)) / 8589934592) ((wrap64 ((wrap64 (s0_2 * 6364136223846793005)) + 1442695040888963407)) / 35184372088832)) 255) + (wrap64 (rd s0_0 s0_1)))) 255, wrap64 (s0_1 + 1), wrap64 ((wrap64 (s0_2 * 6364136223846793005)) + 1442695040888963407))) else (none)) else (some (Go.bits .and .i64 (Go.bits .xor .i64 ((wrap64 ((wrap64 (s0_2 * 6364136223846793005)) + 1442695040888963407)) / 8589934592) ((wrap64 ((wrap64 (s0_2 * 6364136223846793005)) + 1442695040888963407)) / 35184372088832)) 255, s0_1, wrap64 ((wrap64 (s0_2 * 6364136223846793005)) + 1442695040888963407)))
set_option maxHeartbeats 8000000 in
set_option maxRecDepth 100000 in
theorem spec_l1Byte.calls (g : Nat) (s0_0 : List Int) (s0_1 : Int) (s0_2 : Int) (r1 : Int) (r2 : Int) (r3 : Int) (w0 w : World) (hI : IsS_l1Cur w0 w g s0_0 s0_1 s0_2) (hB : Below w0.heap.size w0 w) (h : spec_l1Byte.f s0_0 s0_1 s0_2 = some (r1, r2, r3)) :
    Calls Try.prog 85 #[.pointer (some ⟨g, 0, none⟩)] w fun e w' => e = .returned (.int .i64 r1) ∧ IsS_l1Cur w0 w' g s0_0 r2 r3 ∧ Below w0.heap.size w0 w' ∧ KeepBut w w' g none := by
  have HI0 := Aside0.mk hI
  have HK := Aside0.mk (KeepBut.refl w g none)
  have HL := Aside0.mk hB.size
  clear hI
  have HW0 := Aside0.mk hB.size
  have HB := Aside0.mk hB
  clear hB
  have H : (if s0_1 < (s0_0.length : Int) then (if 0 ≤ s0_1 then (some (Go.bits .and .i64 (wrap64 ((Go.bits .and .i64 (Go.bits .xor .i64 ((wrap64 ((wrap64 (s0_2 * 6364136223846793005)) + 1442695040888963407)) / 8589934592) ((wrap64 ((wrap64 (s0_2 * 6364136223846793005)) + 1442695040888963407)) / 35184372088832)) 255) + (wrap64 (rd s0_0 s0_1)))) 255, wrap64 (s0_1 + 1), wrap64 ((wrap64 (s0_2 * 6364136223846793005)) + 1442695040888963407))) else (none)) else (some (Go.bits .and .i64 (Go.bits .xor .i64 ((wrap64 ((wrap64 (s0_2 * 6364136223846793005)) + 1442695040888963407)) / 8589934592) ((wrap64 ((wrap64 (s0_2 * 6364136223846793005)) + 1442695040888963407)) / 35184372088832)) 255, s0_1, wrap64 ((wrap64 (s0_2 * 6364136223846793005)) + 1442695040888963407)))) = some (r1, r2, r3) := h
  clear h
  by_cases c2 : s0_1 < (s0_0.length : Int)
  · rw [if_pos c2] at H
    have c2b0 : decide (s0_1 < (s0_0.length : Int)) = true := decide_eq_true c2
    clear c2
    by_cases c3 : 0 ≤ s0_1
    · rw [if_pos c3] at H
      have c3b0 : decide (0 ≤ s0_1) = true := decide_eq_true c3
      clear c3
      simp only [Option.some.injEq, Prod.mk.injEq] at H
      obtain ⟨rfl, rfl, rfl⟩ := H
      obtain ⟨ASz4_0, cSz4_0, HGz4, hgz4, ⟨HSz4_0, HZz4_0⟩⟩ := HI0.out
      have hcz4_0 := cellS99_0 HGz4
      have hcz4_1 := cellS99_1 HGz4
      have hcz4_2 := cellS99_2 HGz4
      have hfz4_1 := blk_frozen HGz4 1
      have hfz4_2 := blk_frozen HGz4 2
      clear HGz4 hgz4
      have p452 : 0 ≤ (s0_1 : Int) := of_decide_eq_true dt_
      have q452 : s0_1 < (s0_0.length : Int) := of_decide_eq_true dt_
      obtain ⟨ad452, e452, hx452_0⟩ := Kd.at_int HSz4_0 s0_1 p452 q452
      cases e452
      have hn452_0 : ad452.block ≠ g := Nat.ne_of_lt (Nat.lt_of_lt_of_le (by have := World.block_lt_of_cell? _ _ hx452_0; first | rwa [add_block] at this | exact this) (IsS_l1Cur.ge HI0.out))
      replace hx452_0 := pw_cell_below HB.out hx452_0
      replace hx452_0 := (cell_far (p := ⟨g, 2, none⟩) (by first | (rw [add_block]; exact hn452_0) | (show (Addr.add _ _).block ≠ _; rw [add_block]; exact hn452_0) | exact hn452_0) (.int .i64 (wrap64 ((wrap64 (s0_2 * 6364136223846793005)) + 1442695040888963407)))).trans hx452_0
      (try have hy452_0 := fun (n_ : Nat) => (show (((w.drewN n_).setCell ⟨g, 2, none⟩ (.int .i64 (wrap64 ((wrap64 (s0_2 * 6364136223846793005)) + 1442695040888963407))))).cell? _ = some _ from hx452_0))
      clear hn452_0
      replace p452 := eq_true p452
      replace q452 := eq_true q452
      go_enter Try.func85, Try.ntmps85
      go_wp2
      repeat (go_quiet (fail); try go_wp2)
      go_ret
      exact ⟨qc4_, qc3_, qc5_, qc1_⟩
    · rw [if_neg c3] at H
      exact absurd H (by simp)
  · rw [if_neg c2] at H
    have c2b0 : decide (s0_1 < (s0_0.length : Int)) = false := decide_eq_false c2
    clear c2
    simp only [Option.some.injEq, Prod.mk.injEq] at H
    obtain ⟨rfl, rfl, rfl⟩ := H
    obtain ⟨ASz5_0, cSz5_0, HGz5, hgz5, ⟨HSz5_0, HZz5_0⟩⟩ := HI0.out
    have hcz5_0 := cellS99_0 HGz5
    have hcz5_1 := cellS99_1 HGz5
    have hcz5_2 := cellS99_2 HGz5
    have hfz5_1 := blk_frozen HGz5 1
    have hfz5_2 := blk_frozen HGz5 2
    clear HGz5 hgz5
    go_enter Try.func85, Try.ntmps85
    go_wp2
    repeat (go_quiet (fail); try go_wp2)
    go_ret
    exact ⟨qc4_, qc3_, qc5_, qc1_⟩

/-! ### spec_l1Below: function 79 -/
def spec_l1Below.f (s0_0 : List Int) (s0_1 : Int) (s0_2 : Int) (a1 : Int) : Option (Int × Int × Int) := if a1 ≤ 0 then (some (0, s0_1, s0_2)) else (if a1 ≤ 256 then ((spec_l1Byte.f s0_0 s0_1 s0_2).bind fun bt453 => (if a1 = 0 then (none) else (some (Int.tmod bt453.1 a1, bt453.2.1, bt453.2.2)))) else ((spec_l1Byte.f s0_0 s0_1 s0_2).bind fun bt456 => ((spec_l1Byte.f s0_0 bt456.2.1 bt456.2.2).bind fun bt459 => ((spec_l1Byte.f s0_0 bt459.2.1 bt459.2.2).bind fun bt462 => ((spec_l1Byte.f s0_0 bt462.2.1 bt462.2.2).bind fun bt465 => (if a1 = 0 then (none) else (some (Int.tmod (wrap64 ((wrap64 ((wrap64 ((wrap64 (bt456.1 * 16777216)) + (wrap64 (bt459.1 * 65536)))) + (wrap64 (bt462.1 * 256)))) + bt465.1)) a1, bt465.2.1, bt465.2.2))))))))
set_option maxHeartbeats 8000000 in
set_option maxRecDepth 100000 in
theorem spec_l1Below.calls (g : Nat) (s0_0 : List Int) (s0_1 : Int) (s0_2 : Int) (a1 : Int) (r1 : Int) (r2 : Int) (r3 : Int) (w0 w : World) (hI : IsS_l1Cur w0 w g s0_0 s0_1 s0_2) (hB : Below w0.heap.size w0 w) (h : spec_l1Below.f s0_0 s0_1 s0_2 a1 = some (r1, r2, r3)) :
    Calls Try.prog 79 #[.pointer (some ⟨g, 0, none⟩), .int .i64 a1] w fun e w' => e = .returned (.int .i64 r1) ∧ IsS_l1Cur w0 w' g s0_0 r2 r3 ∧ Below w0.heap.size w0 w' ∧ KeepBut w w' g none := by
  have HI0 := Aside0.mk hI
  have HK := Aside0.mk (KeepBut.refl w g none)
  have HL := Aside0.mk hB.size
  clear hI
  have HW0 := Aside0.mk hB.size
  have HB := Aside0.mk hB
  clear hB
  have H : (if a1 ≤ 0 then (some (0, s0_1, s0_2)) else (if a1 ≤ 256 then ((spec_l1Byte.f s0_0 s0_1 s0_2).bind fun bt453 => (if a1 = 0 then (none) else (some (Int.tmod bt453.1 a1, bt453.2.1, bt453.2.2)))) else ((spec_l1Byte.f s0_0 s0_1 s0_2).bind fun bt456 => ((spec_l1Byte.f s0_0 bt456.2.1 bt456.2.2).bind fun bt459 => ((spec_l1Byte.f s0_0 bt459.2.1 bt459.2.2).bind fun bt462 => ((spec_l1Byte.f s0_0 bt462.2.1 bt462.2.2).bind fun bt465 => (if a1 = 0 then (none) else (some (Int.tmod (wrap64 ((wrap64 ((wrap64 ((wrap64 (bt456.1 * 16777216)) + (wrap64 (bt459.1 * 65536)))) + (wrap64 (bt462.1 * 256)))) + bt465.1)) a1, bt465.2.1, bt465.2.2))))))))) = some (r1, r2, r3) := h
  clear h
  by_cases c3 : a1 ≤ 0
  · rw [if_pos c3] at H
    have c3b0 : decide (a1 ≤ 0) = true := decide_eq_true c3
    clear c3
    simp only [Option.some.injEq, Prod.mk.injEq] at H
    obtain ⟨rfl, rfl, rfl⟩ := H
    go_enter Try.func79, Try.ntmps79
    go_wp2
    go_ret
    exact ⟨qc4_, qc3_, qc5_, qc1_⟩
  · rw [if_neg c3] at H
    have c3b0 : decide (a1 ≤ 0) = false := decide_eq_false c3
    clear c3
    by_cases c4 : a1 ≤ 256
    · rw [if_pos c4] at H
      have c4b0 : decide (a1 ≤ 256) = true := decide_eq_true c4
      clear c4
      replace H := Option.bind_eq_some_iff.mp H
      obtain ⟨⟨t453, t454, t455⟩, A50, H⟩ := H
      replace H : (if a1 = 0 then (none) else (some (Int.tmod t453 a1, t454, t455))) = some (r1, r2, r3) := H
      have A5 := Aside0.mk A50
      clear A50
      by_cases c6 : a1 = 0
      · rw [if_pos c6] at H
        exact absurd H (by simp)
      · rw [if_neg c6] at H
        have c6b0 : (a1 == 0) = false := beq_eq_false_iff_ne.mpr c6
        have c6b1 : (a1 != 0) = true := bne_iff_ne.mpr c6
        simp only [Option.some.injEq, Prod.mk.injEq] at H
        obtain ⟨rfl, rfl, rfl⟩ := H
        go_enter Try.func79, Try.ntmps79
        go_wp2_with (first | ((with_reducible refine gate_callee (f := 85) rfl ?_); refine goesL_ (some 14) rfl rfl Try.func85 (by kernel_rfl) rfl #[.pointer (some ⟨g, 0, none⟩)] rfl (qc2_) ?_; (with_reducible refine (spec_l1Byte.calls g s0_0 s0_1 s0_2 t453 t454 t455 w0 _ ?side1 ?side2 A5.out).mono ?_); (case side1 => repeat (first | (with_reducible first | exact HI0.out | apply IsS_l1Cur.alloc | apply IsS_l1Cur.drewN | apply IsS_l1Cur.drew | apply IsS_l1Cur.set_1 | apply IsS_l1Cur.set_2) | exact HI0.out)); (case side2 => repeat (first | (with_reducible first | exact HB.out | apply below_alloc | apply pw_below_drewN | apply below_drew1 | refine below_set ?_ (IsS_l1Cur.ge HI0.out)) | exact HB.out)); rintro e w7 ⟨rfl, hi, hb, hk⟩; refine ⟨_, rfl, ?_⟩; have n0_ := Aside0.mk (KeepBut.trans (qc1_) hk (.inl rfl)); have n1_ := Aside0.mk (hb); have n2_ := Aside0.mk (hi); clear HK; clear HB; clear HI0; have HK := n0_; have HB := n1_; have HI0 := n2_; clear n0_ n1_ n2_; (try clear hb); (try clear hb2); (try clear hk); (try clear hi)))
        go_ret
        exact ⟨qc4_, qc3_, qc5_, qc1_⟩
    · rw [if_neg c4] at H
      have c4b0 : decide (a1 ≤ 256) = false := decide_eq_false c4
      clear c4
      replace H := Option.bind_eq_some_iff.mp H
      obtain ⟨⟨t456, t457, t458⟩, A80, H⟩ := H
      replace H : ((spec_l1Byte.f s0_0 t457 t458).bind fun bt459 => ((spec_l1Byte.f s0_0 bt459.2.1 bt459.2.2).bind fun bt462 => ((spec_l1Byte.f s0_0 bt462.2.1 bt462.2.2).bind fun bt465 => (if a1 = 0 then (none) else (some (Int.tmod (wrap64 ((wrap64 ((wrap64 ((wrap64 (t456 * 16777216)) + (wrap64 (bt459.1 * 65536)))) + (wrap64 (bt462.1 * 256)))) + bt465.1)) a1, bt465.2.1, bt465.2.2)))))) = some (r1, r2, r3) := H
      have A8 := Aside0.mk A80
      clear A80
      replace H := Option.bind_eq_some_iff.mp H
      obtain ⟨⟨t459, t460, t461⟩, A90, H⟩ := H
      replace H : ((spec_l1Byte.f s0_0 t460 t461).bind fun bt462 => ((spec_l1Byte.f s0_0 bt462.2.1 bt462.2.2).bind fun bt465 => (if a1 = 0 then (none) else (some (Int.tmod (wrap64 ((wrap64 ((wrap64 ((wrap64 (t456 * 16777216)) + (wrap64 (t459 * 65536)))) + (wrap64 (bt462.1 * 256)))) + bt465.1)) a1, bt465.2.1, bt465.2.2))))) = some (r1, r2, r3) := H
      have A9 := Aside0.mk A90
      clear A90
      replace H := Option.bind_eq_some_iff.mp H
      obtain ⟨⟨t462, t463, t464⟩, A100, H⟩ := H
      replace H : ((spec_l1Byte.f s0_0 t463 t464).bind fun bt465 => (if a1 = 0 then (none) else (some (Int.tmod (wrap64 ((wrap64 ((wrap64 ((wrap64 (t456 * 16777216)) + (wrap64 (t459 * 65536)))) + (wrap64 (t462 * 256)))) + bt465.1)) a1, bt465.2.1, bt465.2.2)))) = some (r1, r2, r3) := H
      have A10 := Aside0.mk A100
      clear A100
      replace H := Option.bind_eq_some_iff.mp H
      obtain ⟨⟨t465, t466, t467⟩, A110, H⟩ := H
      replace H : (if a1 = 0 then (none) else (some (Int.tmod (wrap64 ((wrap64 ((wrap64 ((wrap64 (t456 * 16777216)) + (wrap64 (t459 * 65536)))) + (wrap64 (t462 * 256)))) + t465)) a1, t466, t467))) = some (r1, r2, r3) := H
      have A11 := Aside0.mk A110
      clear A110
      by_cases c12 : a1 = 0
      · rw [if_pos c12] at H
        exact absurd H (by simp)
      · rw [if_neg c12] at H
        have c12b0 : (a1 == 0) = false := beq_eq_false_iff_ne.mpr c12
        have c12b1 : (a1 != 0) = true := bne_iff_ne.mpr c12
        simp only [Option.some.injEq, Prod.mk.injEq] at H
        obtain ⟨rfl, rfl, rfl⟩ := H
        go_enter Try.func79, Try.ntmps79
        go_wp2_with (first | ((with_reducible refine gate_callee (f := 85) rfl ?_); refine goesL_ (some 18) rfl rfl Try.func85 (by kernel_rfl) rfl #[.pointer (some ⟨g, 0, none⟩)] rfl (qc2_) ?_; (with_reducible refine (spec_l1Byte.calls g s0_0 s0_1 s0_2 t456 t457 t458 w0 _ ?side1 ?side2 A8.out).mono ?_); (case side1 => repeat (first | (with_reducible first | exact HI0.out | apply IsS_l1Cur.alloc | apply IsS_l1Cur.drewN | apply IsS_l1Cur.drew | apply IsS_l1Cur.set_1 | apply IsS_l1Cur.set_2) | exact HI0.out)); (case side2 => repeat (first | (with_reducible first | exact HB.out | apply below_alloc | apply pw_below_drewN | apply below_drew1 | refine below_set ?_ (IsS_l1Cur.ge HI0.out)) | exact HB.out)); rintro e w13 ⟨rfl, hi, hb, hk⟩; refine ⟨_, rfl, ?_⟩; have n0_ := Aside0.mk (KeepBut.trans (qc1_) hk (.inl rfl)); have n1_ := Aside0.mk (hb); have n2_ := Aside0.mk (hi); clear HK; clear HB; clear HI0; have HK := n0_; have HB := n1_; have HI0 := n2_; clear n0_ n1_ n2_; (try clear hb); (try clear hb2); (try clear hk); (try clear hi)) | ((with_reducible refine gate_callee (f := 85) rfl ?_); refine goesL_ (some 20) rfl rfl Try.func85 (by kernel_rfl) rfl #[.pointer (some ⟨g, 0, none⟩)] rfl (qc2_) ?_; (with_reducible refine (spec_l1Byte.calls g s0_0 t457 t458 t459 t460 t461 w0 _ ?side1 ?side2 A9.out).mono ?_); (case side1 => repeat (first | (with_reducible first | exact HI0.out | apply IsS_l1Cur.alloc | apply IsS_l1Cur.drewN | apply IsS_l1Cur.drew | apply IsS_l1Cur.set_1 | apply IsS_l1Cur.set_2) | exact HI0.out)); (case side2 => repeat (first | (with_reducible first | exact HB.out | apply below_alloc | apply pw_below_drewN | apply below_drew1 | refine below_set ?_ (IsS_l1Cur.ge HI0.out)) | exact HB.out)); rintro e w14 ⟨rfl, hi, hb, hk⟩; refine ⟨_, rfl, ?_⟩; have n0_ := Aside0.mk (KeepBut.trans (qc1_) hk (.inl rfl)); have n1_ := Aside0.mk (hb); have n2_ := Aside0.mk (hi); clear HK; clear HB; clear HI0; have HK := n0_; have HB := n1_; have HI0 := n2_; clear n0_ n1_ n2_; (try clear hb); (try clear hb2); (try clear hk); (try clear hi)) | ((with_reducible refine gate_callee (f := 85) rfl ?_); refine goesL_ (some 22) rfl rfl Try.func85 (by kernel_rfl) rfl #[.pointer (some ⟨g, 0, none⟩)] rfl (qc2_) ?_; (with_reducible refine (spec_l1Byte.calls g s0_0 t460 t461 t462 t463 t464 w0 _ ?side1 ?side2 A10.out).mono ?_); (case side1 => repeat (first | (with_reducible first | exact HI0.out | apply IsS_l1Cur.alloc | apply IsS_l1Cur.drewN | apply IsS_l1Cur.drew | apply IsS_l1Cur.set_1 | apply IsS_l1Cur.set_2) | exact HI0.out)); (case side2 => repeat (first | (with_reducible first | exact HB.out | apply below_alloc | apply pw_below_drewN | apply below_drew1 | refine below_set ?_ (IsS_l1Cur.ge HI0.out)) | exact HB.out)); rintro e w15 ⟨rfl, hi, hb, hk⟩; refine ⟨_, rfl, ?_⟩; have n0_ := Aside0.mk (KeepBut.trans (qc1_) hk (.inl rfl)); have n1_ := Aside0.mk (hb); have n2_ := Aside0.mk (hi); clear HK; clear HB; clear HI0; have HK := n0_; have HB := n1_; have HI0 := n2_; clear n0_ n1_ n2_; (try clear hb); (try clear hb2); (try clear hk); (try clear hi)) | ((with_reducible refine gate_callee (f := 85) rfl ?_); refine goesL_ (some 24) rfl rfl Try.func85 (by kernel_rfl) rfl #[.pointer (some ⟨g, 0, none⟩)] rfl (qc2_) ?_; (with_reducible refine (spec_l1Byte.calls g s0_0 t463 t464 t465 t466 t467 w0 _ ?side1 ?side2 A11.out).mono ?_); (case side1 => repeat (first | (with_reducible first | exact HI0.out | apply IsS_l1Cur.alloc | apply IsS_l1Cur.drewN | apply IsS_l1Cur.drew | apply IsS_l1Cur.set_1 | apply IsS_l1Cur.set_2) | exact HI0.out)); (case side2 => repeat (first | (with_reducible first | exact HB.out | apply below_alloc | apply pw_below_drewN | apply below_drew1 | refine below_set ?_ (IsS_l1Cur.ge HI0.out)) | exact HB.out)); rintro e w16 ⟨rfl, hi, hb, hk⟩; refine ⟨_, rfl, ?_⟩; have n0_ := Aside0.mk (KeepBut.trans (qc1_) hk (.inl rfl)); have n1_ := Aside0.mk (hb); have n2_ := Aside0.mk (hi); clear HK; clear HB; clear HI0; have HK := n0_; have HB := n1_; have HI0 := n2_; clear n0_ n1_ n2_; (try clear hb); (try clear hb2); (try clear hk); (try clear hi)))
        go_ret
        exact ⟨qc4_, qc3_, qc5_, qc1_⟩

/-! ### spec_l1PickInt: function 64 -/
def spec_l1PickInt.f (s0_0 : List Int) (s0_1 : Int) (s0_2 : Int) (l1 : List Int) : Option (Int × Int × Int) := (spec_l1Below.f s0_0 s0_1 s0_2 (l1.length : Int)).bind fun bt468 => (if 0 ≤ bt468.1 then (if bt468.1 < (l1.length : Int) then (some (rd l1 bt468.1, bt468.2.1, bt468.2.2)) else (none)) else (none))
set_option maxHeartbeats 8000000 in
set_option maxRecDepth 100000 in
theorem spec_l1PickInt.calls (g : Nat) (s0_0 : List Int) (s0_1 : Int) (s0_2 : Int) (A1 : Option Addr) (c1 : Nat) (l1 : List Int) (r1 : Int) (r2 : Int) (r3 : Int) (w0 w : World) (hI : IsS_l1Cur w0 w g s0_0 s0_1 s0_2) (hB : Below w0.heap.size w0 w) (hr1 : Kd.C (Kd.int .i64) w A1 l1.length l1) (hc1 : l1.length ≤ c1) (hf1 : ∀ ad, A1 = some ad → 0 < l1.length → ad.block ≠ g) (h : spec_l1PickInt.f s0_0 s0_1 s0_2 l1 = some (r1, r2, r3)) :
    Calls Try.prog 64 #[.pointer (some ⟨g, 0, none⟩), .slice A1 l1.length c1] w fun e w' => e = .returned (.int .i64 r1) ∧ IsS_l1Cur w0 w' g s0_0 r2 r3 ∧ Below w0.heap.size w0 w' ∧ KeepBut w w' g none := by
  have HR1 := Aside0.mk hr1
  have HC1 := Aside0.mk hc1
  clear hr1 hc1
  have HI0 := Aside0.mk hI
  have HK := Aside0.mk (KeepBut.refl w g none)
  have HL := Aside0.mk hB.size
  clear hI
  have HW0 := Aside0.mk hB.size
  have HB := Aside0.mk hB
  clear hB
  have H : ((spec_l1Below.f s0_0 s0_1 s0_2 (l1.length : Int)).bind fun bt468 => (if 0 ≤ bt468.1 then (if bt468.1 < (l1.length : Int) then (some (rd l1 bt468.1, bt468.2.1, bt468.2.2)) else (none)) else (none))) = some (r1, r2, r3) := h
  clear h
  replace H := Option.bind_eq_some_iff.mp H
  obtain ⟨⟨t468, t469, t470⟩, A30, H⟩ := H
  replace H : (if 0 ≤ t468 then (if t468 < (l1.length : Int) then (some (rd l1 t468, t469, t470)) else (none)) else (none)) = some (r1, r2, r3) := H
  have A3 := Aside0.mk A30
  clear A30
  by_cases c4 : 0 ≤ t468
  · rw [if_pos c4] at H
    have c4b0 : decide (0 ≤ t468) = true := decide_eq_true c4
    clear c4
    by_cases c5 : t468 < (l1.length : Int)
    · rw [if_pos c5] at H
      have c5b0 : decide (t468 < (l1.length : Int)) = true := decide_eq_true c5
      clear c5
      simp only [Option.some.injEq, Prod.mk.injEq] at H
      obtain ⟨rfl, rfl, rfl⟩ := H
      go_enter Try.func64, Try.ntmps64
      go_wp2_with (first | ((with_reducible refine gate_callee (f := 79) rfl ?_); refine goesL_ (some 9) rfl rfl Try.func79 (by kernel_rfl) rfl #[.pointer (some ⟨g, 0, none⟩), .int .i64 (l1.length : Int)] rfl (qc2_) ?_; (with_reducible refine (spec_l1Below.calls g s0_0 s0_1 s0_2 (l1.length : Int) t468 t469 t470 w0 _ ?side1 ?side2 A3.out).mono ?_); (case side1 => repeat (first | (with_reducible first | exact HI0.out | apply IsS_l1Cur.alloc | apply IsS_l1Cur.drewN | apply IsS_l1Cur.drew | apply IsS_l1Cur.set_1 | apply IsS_l1Cur.set_2) | exact HI0.out)); (case side2 => repeat (first | (with_reducible first | exact HB.out | apply below_alloc | apply pw_below_drewN | apply below_drew1 | refine below_set ?_ (IsS_l1Cur.ge HI0.out)) | exact HB.out)); rintro e w6 ⟨rfl, hi, hb, hk⟩; refine ⟨_, rfl, ?_⟩; have n0_ := Aside0.mk (KeepBut.trans (qc1_) hk (.inl rfl)); have n1_ := Aside0.mk (hb); have n2_ := Aside0.mk (hi); clear HK; clear HB; clear HI0; have HK := n0_; have HB := n1_; have HI0 := n2_; clear n0_ n1_ n2_; (try clear hb); (try clear hb2); (try clear hk); (try clear hi); have p471 : 0 ≤ (t468 : Int) := of_decide_eq_true dt_; have q471 : t468 < (l1.length : Int) := of_decide_eq_true dt_; obtain ⟨ad471, e471, hx471_0⟩ := Kd.at_int HR1.out t468 p471 q471; cases e471; replace hx471_0 := keep_cell HK.out hx471_0 (by first | (rw [add_block]; exact hf1 _ rfl (by omega)) | exact hf1 _ rfl (by omega) | exact hf1 ad471 rfl (by omega)); replace p471 := eq_true p471; replace q471 := eq_true q471))
      go_ret
      exact ⟨qc4_, qc3_, qc5_, qc1_⟩
    · rw [if_neg c5] at H
      exact absurd H (by simp)
  · rw [if_neg c4] at H
    exact absurd H (by simp)
/-! ### spec_l3Copy: function 68 -/
def spec_l3Copy.f (a0_0 : Int) (a0_1 : Int) (l0_2 : List (S_Item)) : Option (Int × Int × (List (S_Item))) := (some (([] : List (S_Item)) : List (S_Item))).bind fun y474 => (if y474.length + l0_2.length < 2513169434916 then (some (a0_0, a0_1, (y474 ++ l0_2))) else (none))
def spec_l3Copy.T1 : Bool × List (List Nat × List Nat) := (true, [([], []), ([0], [0]), ([], []), ([2], [2]), ([], []), ([], []), ([5], [5]), ([4, 6], [4, 6]), ([1, 3, 7], [1, 3, 7]), ([8, 7, 0, 1, 2, 3, 4, 5, 6, 7, 8], [8])])
def spec_l3Copy.B1 : List Nat := [0, 1, 0, 4, 0, 0, 32, 112, 255, 511]
theorem spec_l3Copy.tab1 : rtab .any (opsOf Try.f68 1) = spec_l3Copy.T1 := by kernel_rfl
theorem spec_l3Copy.bits1 : waitsOk spec_l3Copy.T1.2 spec_l3Copy.B1 = true := by kernel_rfl
set_option maxHeartbeats 8000000 in
set_option maxRecDepth 100000 in
theorem spec_l3Copy.calls (a0_0 : Int) (a0_1 : Int) (A0_2 : Option Addr) (c0_2 : Nat) (l0_2 : List (S_Item)) (r1 : Int) (r2 : Int) (r3 : List (S_Item)) (w : World) (hr0_2 : Kd.C k_Item w A0_2 l0_2.length l0_2) (hc0_2 : l0_2.length ≤ c0_2) (h : spec_l3Copy.f a0_0 a0_1 l0_2 = some (r1, r2, r3)) :
    Calls Try.prog 68 #[.agg #[.int .i64 a0_0, .int .i64 a0_1, .slice A0_2 l0_2.length c0_2]] w fun e w' => ∃ v2_ : Value, e = .returned (.agg #[.int .i64 r1, .int .i64 r2, v2_]) ∧ Kd.R k_Item 55 w' w.heap.size (fun _ => True) v2_ r3 ∧ Below w.heap.size w w' := by
  have hu48 := Try.underlying48
  have HR0_2 := Aside0.mk hr0_2
  have HC0_2 := Aside0.mk hc0_2
  clear hr0_2 hc0_2
  have HB := Aside0.mk (Below.refl w.heap.size w)
  have H : ((some (([] : List (S_Item)) : List (S_Item))).bind fun y474 => (if y474.length + l0_2.length < 2513169434916 then (some (a0_0, a0_1, (y474 ++ l0_2))) else (none))) = some (r1, r2, r3) := h
  clear h
  obtain ⟨y474, hy474⟩ : ∃ y_ : List (S_Item), y_ = (([] : List (S_Item))) := ⟨_, rfl⟩
  replace H : (if y474.length + l0_2.length < 2513169434916 then (some (a0_0, a0_1, (y474 ++ l0_2))) else (none)) = some (r1, r2, r3) := by first | (rw [hy474]; with_reducible exact H) | (have H2_ := (Option.bind_some _ _).symm.trans H; rw [hy474]; with_reducible exact H2_) | (have H2_ := (Option.bind_some _ _).symm.trans H; with_reducible exact H2_) | with_reducible exact H | (rw [hy474]; exact H) | exact H
  have Ny474 := Aside0.mk hy474
  clear hy474
  by_cases c2 : y474.length + l0_2.length < 2513169434916
  · rw [if_pos c2] at H
    have LMc2 := Aside0.mk c2
    clear c2
    obtain ⟨y477, hy477⟩ : ∃ y_ : List (S_Item), y_ = (y474 ++ l0_2) := ⟨_, rfl⟩
    replace H : (some (a0_0, a0_1, y477)) = some (r1, r2, r3) := by first | (rw [hy477]; with_reducible exact H) | (have H2_ := (Option.bind_some _ _).symm.trans H; rw [hy477]; with_reducible exact H2_) | (have H2_ := (Option.bind_some _ _).symm.trans H; with_reducible exact H2_) | with_reducible exact H | (rw [hy477]; exact H) | exact H
    have Ny477 := Aside0.mk hy477
    clear hy477
    simp only [Option.some.injEq, Prod.mk.injEq] at H
    obtain ⟨rfl, rfl, rfl⟩ := H
    go_enter Try.func68, Try.ntmps68
    try go_wp2_with (first | ((with_reducible refine gate_dst (N := 1) rfl ?_); refine box_event ?hg (N := 1) ?hd (cs := #[.int .i64 a0_0, .int .i64 a0_1, .slice A0_2 l0_2.length c0_2]) (t := 48) ?hr ?_; (case hd => rfl); (case hg => rfl); (case hr => first | (go_simp; done) | (go_simp; rfl)); intro gb472 hg w3 hbox hb; have n0_ := Aside0.mk (below_step (qc0_) hb); have n1_ := Aside0.mk (hbox); have n2_ := Aside0.mk ((by rw [hg]; exact (below_size (qc0_)) : w.heap.size ≤ gb472)); have n3_ := Aside0.mk ((by rw [hg]; exact (below_size (qc0_)) : w.heap.size ≤ gb472)); clear HB; have HB := n0_; have BK472 := n1_; have GW472 := n2_; have GE472 := n3_; clear n0_ n1_ n2_ n3_; clear hb hbox hg) | ((with_reducible refine gate_dst (N := 2) rfl ?_); refine box_event ?hg (N := 2) ?hd (cs := #[.int .i64 0, .int .i64 0, .slice none 0 0]) (t := 48) ?hr ?_; (case hd => rfl); (case hg => rfl); (case hr => first | (go_simp; done) | (go_simp; rfl)); intro gb473 hg w4 hbox hb; have n0_ := Aside0.mk (blk_below (g := gb472) (o := .cells #[.int .i64 a0_0, .int .i64 a0_1, .slice A0_2 l0_2.length c0_2] 48 (0, 0)) (bq_ BK472.out) hb); have n1_ := Aside0.mk (below_step (qc10_) hb); have n2_ := Aside0.mk (hbox); have n3_ := Aside0.mk ((by rw [hg]; exact (below_size (qc10_)) : w.heap.size ≤ gb473)); have n4_ := Aside0.mk ((by rw [hg]; exact (below_size (qc10_)) : w.heap.size ≤ gb473)); have n5_ := Aside0.mk ((by rw [hg]; exact Nat.ne_of_lt (blk_lt (g := gb472) (o := .cells #[.int .i64 a0_0, .int .i64 a0_1, .slice A0_2 l0_2.length c0_2] 48 (0, 0)) (bq_ BK472.out)) : gb472 ≠ gb473)); have n6_ := Aside0.mk ((by rw [hg]; exact Nat.ne_of_gt (blk_lt (g := gb472) (o := .cells #[.int .i64 a0_0, .int .i64 a0_1, .slice A0_2 l0_2.length c0_2] 48 (0, 0)) (bq_ BK472.out)) : gb473 ≠ gb472)); clear BK472; clear HB; have BK472 := n0_; have HB := n1_; have BK473 := n2_; have GW473 := n3_; have GE473 := n4_; have NB472_473 := n5_; have NB473_472 := n6_; clear n0_ n1_ n2_ n3_ n4_ n5_ n6_; clear hb hbox hg))
    have n0_ := Aside0.mk (blk_drew BK472.out)
    have n1_ := Aside0.mk (blk_drew BK473.out)
    have n2_ := Aside0.mk (below_drew1 HB.out)
    clear BK472
    clear BK473
    clear HB
    have BK472 := n0_
    have BK473 := n1_
    have HB := n2_
    clear n0_ n1_ n2_
    refine start_ (n := 10) (S := fun w' => w'.cell? ⟨gb472, 0, none⟩ = some (.int .i64 a0_0) ∧ w'.cell? ⟨gb472, 1, none⟩ = some (.int .i64 a0_1) ∧ w'.cell? ⟨gb472, 2, none⟩ = some (.slice A0_2 l0_2.length c0_2)) (ds := []) #[false, false, false, false, false, false, false, false, false, false] (by kernel_rfl) rfl rfl ⟨bc_ BK472 0, bc_ BK472 1, bc_ BK472 2⟩ (fun hHeld => ?_); refine with_tabW spec_l3Copy.tab1 spec_l3Copy.bits1 (fun HT_ HW_ => ?_)
    generalize w4.drew = w5 at BK472 BK473 HB hHeld ⊢
    refine pure_ (i := 0) (N := some 3) (v := ?_) (a' := ?_) #[true, false, false, false, false, false, false, false, false, false] rfl rfl (any_of HT_.out (by kernel_rfl)) (fun _ _ _ h => h) (Or.inl ⟨by rfl, ?_⟩) ?_ ?_
    rotate_left
    · intro w'
      go_simp
      with_reducible rfl
    rotate_left
    · simp only [Act.put, List.setIfInBounds_toArray, List.set_cons_zero, List.set_cons_succ, i64_w, i32_w]
      rfl
    refine pure_ (i := 2) (N := some 5) (v := ?_) (a' := ?_) #[true, false, true, false, false, false, false, false, false, false] rfl rfl (any_of HT_.out (by kernel_rfl)) (fun _ _ _ h => h) (Or.inl ⟨by rfl, ?_⟩) ?_ ?_
    rotate_left
    · intro w'
      go_simp
      with_reducible rfl
    rotate_left
    · simp only [Act.put, List.setIfInBounds_toArray, List.set_cons_zero, List.set_cons_succ, i64_w, i32_w]
      rfl
    refine pure_ (i := 5) (N := some 8) (v := ?_) (a' := ?_) #[true, false, true, false, false, true, false, false, false, false] rfl rfl (any_of HT_.out (by kernel_rfl)) (fun _ _ _ h => h) (Or.inl ⟨by rfl, ?_⟩) ?_ ?_
    rotate_left
    · intro w'
      go_simp
      with_reducible rfl
    rotate_left
    · simp only [Act.put, List.setIfInBounds_toArray, List.set_cons_zero, List.set_cons_succ, i64_w, i32_w]
      rfl
    refine take_ (i := 1) (N := some 4) (v := ?_) (a' := ?_) #[true, true, true, false, false, true, false, false, false, false] rfl rfl (take_ofW HT_.out HW_.out (by kernel_rfl)) (fun _ _ _ h => h) (Or.inl ⟨by rfl, ?_⟩) hHeld ?_ ?_
    rotate_left
    · rintro w' ⟨s0, s1, s2⟩
      go_simp
      with_reducible rfl
    rotate_left
    · simp only [Act.put, List.setIfInBounds_toArray, List.set_cons_zero, List.set_cons_succ, i64_w, i32_w]
      rfl
    refine take_ (i := 3) (N := some 6) (v := ?_) (a' := ?_) #[true, true, true, true, false, true, false, false, false, false] rfl rfl (take_ofW HT_.out HW_.out (by kernel_rfl)) (fun _ _ _ h => h) (Or.inl ⟨by rfl, ?_⟩) hHeld ?_ ?_
    rotate_left
    · rintro w' ⟨s0, s1, s2⟩
      go_simp
      with_reducible rfl
    rotate_left
    · simp only [Act.put, List.setIfInBounds_toArray, List.set_cons_zero, List.set_cons_succ, i64_w, i32_w]
      rfl
    refine take_ (i := 6) (N := some 9) (v := ?_) (a' := ?_) #[true, true, true, true, false, true, true, false, false, false] rfl rfl (take_ofW HT_.out HW_.out (by kernel_rfl)) (fun _ _ _ h => h) (Or.inl ⟨by rfl, ?_⟩) hHeld ?_ ?_
    rotate_left
    · rintro w' ⟨s0, s1, s2⟩
      go_simp
      with_reducible rfl
    rotate_left
    · simp only [Act.put, List.setIfInBounds_toArray, List.set_cons_zero, List.set_cons_succ, i64_w, i32_w]
      rfl
    refine on_ 4 7 HT_ #[true, true, true, true, true, true, true, false, false, false] rfl rfl (fun K hK => ?_)
    refine Kd.R_lit_step k_Item _ 55 ?hg (N := 7) ?hd (xs := ([] : List (S_Item))) (inner := []) (ok := fun _ => True) (okp := fun _ => True) ?hr ?hp (fun _ hk => hk) trivial (Below.refl _ _) (Nat.le_refl _) (by simp) ?_; (case hd => rfl); (case hg => rfl); (case hr => first | (go_simp; done) | (go_simp; rfl)); (case hp => exact (Reps.none _ _))
    intro v475 w6 ho7 hb hg_ hnew_
    clear hg_ hnew_
    (first | rw [← Ny474.out] at ho7 | (simp only [Int.reduceToNat] at ho7; rw [← Ny474.out] at ho7))
    have n0_ := Aside0.mk (Kd.R_lower ho7 (below_size (qc6_)))
    have n1_ := Aside0.mk (blk_below (g := gb472) (o := .cells #[.int .i64 a0_0, .int .i64 a0_1, .slice A0_2 l0_2.length c0_2] 48 (0, 0)) (bq_ BK472.out) hb)
    have n2_ := Aside0.mk (blk_below (g := gb473) (o := .cells #[.int .i64 0, .int .i64 0, .slice none 0 0] 48 (0, 0)) (bq_ BK473.out) hb)
    have n3_ := Aside0.mk (below_step (qc6_) hb)
    clear BK472
    clear BK473
    clear HB
    have HO476 := n0_
    have BK472 := n1_
    have BK473 := n2_
    have HB := n3_
    clear n0_ n1_ n2_ n3_
    clear hb ho7
    refine hK.out _ _ ⟨bc_ BK472 0, bc_ BK472 1, bc_ BK472 2⟩ (fun hHeld => ?_)
    clear hK K
    refine norm_ (a' := ?_) ?_ ?_
    rotate_left
    · show Act.put _ (some 7) _ = _
      simp only [Act.put, List.setIfInBounds_toArray, List.set_cons_zero, List.set_cons_succ, i64_w, i32_w]
      rfl
    refine on_ 7 10 HT_ #[true, true, true, true, true, true, true, true, false, false] rfl rfl (fun K hK => ?_)
    refine Kd.R_append_rows_step k_Item (w0 := w) w.heap.size (by rfl) (.tmp 7) (.tmp 9) 46 55 (.agg #[(.int .i64 0), (.string ⟨#[]⟩), (.string ⟨#[]⟩), (.int .i64 0), (.int .i64 0)]) 56 rfl Try.underlying46 info55 rfl (by decide) (by omega) v475 y474 l0_2 _ _ _ (fun _ => True) (fun _ => False) rfl rfl ?aO ?aR (fun _ _ h => h) (fun _ h => h.elim) ?aF ?aB ?aS ?aL ?_
    (case aR => repeat (first | exact (Kd.C_below HR0_2.out HB.out) | (with_reducible refine Kd.C_alloc ?_ _) | (with_reducible refine Kd.C_drewN ?_ _) | (with_reducible refine Kd.C_drew ?_)))
    (case aB => exact (qc6_))
    (case aF => exact (fun _ _ => trivial))
    (case aO => exact (by (with_reducible repeat (first | apply Kd.R_alloc | apply Kd.R_drewN | apply Kd.R_drew)); exact HO476.out))
    (case aS => exact (below_size (qc6_)))
    (case aL => have := LMc2.out; omega)
    intro v478 w8 ho hb hg hat
    rw [← Ny477.out] at ho
    have n0_ := Aside0.mk (blk_grown (g := gb472) (o := .cells #[.int .i64 a0_0, .int .i64 a0_1, .slice A0_2 l0_2.length c0_2] 48 (0, 0)) (bq_ BK472.out) hg (Kd.R_ne HO476.out BK472.out (by decide)))
    have n1_ := Aside0.mk (blk_grown (g := gb473) (o := .cells #[.int .i64 0, .int .i64 0, .slice none 0 0] 48 (0, 0)) (bq_ BK473.out) hg (Kd.R_ne HO476.out BK473.out (by decide)))
    have n2_ := Aside0.mk (hb)
    have n3_ := Aside0.mk (ho)
    clear BK472
    clear BK473
    clear HB
    clear HO476
    have BK472 := n0_
    have BK473 := n1_
    have HB := n2_
    have HO479 := n3_
    clear n0_ n1_ n2_ n3_
    clear ho hb hg hat
    obtain ⟨Ao9, co9, eo9⟩ := Kd.R_slice HO479.out
    (first | subst eo9 | (injection eo9 with f1_ f2_ f3_; have f4_ := f1_.symm; have f5_ := f3_.symm; clear f1_ f2_ f3_; subst f4_; subst f5_))
    refine hK.out _ _ ⟨bc_ BK472 0, bc_ BK472 1, bc_ BK472 2⟩ (fun hHeld => ?_)
    clear hK K
    refine norm_ (a' := ?_) ?_ ?_
    rotate_left
    · show Act.put _ (some 10) _ = _
      simp only [Act.put, List.setIfInBounds_toArray, List.set_cons_zero, List.set_cons_succ, i64_w, i32_w]
      rfl
    refine pure_ (i := 8) (N := some 11) (v := ?_) (a' := ?_) #[true, true, true, true, true, true, true, true, true, false] rfl rfl (any_of HT_.out (by kernel_rfl)) (fun _ _ _ h => h) (Or.inl ⟨by rfl, ?_⟩) ?_ ?_
    rotate_left
    · intro w'
      go_simp
      with_reducible rfl
    rotate_left
    · simp only [Act.put, List.setIfInBounds_toArray, List.set_cons_zero, List.set_cons_succ, i64_w, i32_w]
      rfl
    refine one_ (i := 9) (N := none) #[true, true, true, true, true, true, true, true, true, true] rfl rfl (one_of HT_.out (by kernel_rfl)) (by decide) (fun K hK => ?_)
    have hs10 : w8.cell? ⟨gb473, 0, none⟩ = some (.int .i64 0) := bc_ BK473 0
    have hfs10 := blk_frozen BK473.out 0
    have hns10_0 := NB472_473.out
    have hms10_0 := NB473_472.out
    have hs11 : w8.cell? ⟨gb473, 1, none⟩ = some (.int .i64 0) := bc_ BK473 1
    have hfs11 := blk_frozen BK473.out 1
    have hns11_0 := NB472_473.out
    have hms11_0 := NB473_472.out
    have hs12 : w8.cell? ⟨gb473, 2, none⟩ = some (.slice none 0 0) := bc_ BK473 2
    have hfs12 := blk_frozen BK473.out 2
    have hns12_0 := NB472_473.out
    have hms12_0 := NB473_472.out
    refine skip_ (w1 := ?_) (by rfl) rfl ?_ ?_
    rotate_left
    · go_simp
      rfl
    refine hK.out _ _ ⟨(cfs_ NB472_473.out (hHeld.1)), (cfs_ NB472_473.out (hHeld.2.1)), (cfs_ NB472_473.out (hHeld.2.2))⟩ (fun hHeld => ?_)
    clear hK K
    refine done_ (done_of HT_.out (by kernel_rfl)) ?_
    try go_wp2
    refine bodyPost_ret (results_cell_row rfl _ _ gb473 48 #[.int .i64 a0_0, .int .i64 a0_1, .slice Ao9 y477.length co9] (0, 0) _ rfl (bp_ BK473.out) Try.underlying48 rfl (by kernel_rfl)) rfl ?_
    exact ⟨_, qc4_, by (with_reducible repeat (first | apply Kd.R_alloc | apply Kd.R_drewN | apply Kd.R_drew)); exact Kd.R_mono (Kd.R_far (p := ⟨gb473, 2, none⟩) (Kd.R_far (p := ⟨gb473, 1, none⟩) (Kd.R_far (p := ⟨gb473, 0, none⟩) (Kd.R_types HO479.out BK473.out (by decide)) (fun _ hk => hk.2) (.int .i64 a0_0)) (fun _ hk => hk.2) (.int .i64 a0_1)) (fun _ hk => hk.2) (.slice Ao9 y477.length co9)) (fun _ hk => trivial), qc6_⟩
  · rw [if_neg c2] at H
    exact absurd H (by simp)

/-! ### spec_l3Item: function 83 -/
def spec_l3Item.f (k : Nat) (a0_0 : Int) (a0_1 : ByteArray) (a0_2 : ByteArray) (a0_3 : Int) (a0_4 : Int) : Option (Bool) := (spec_l2Text.f k a0_1).bind fun t481 => (if t481 = true then ((spec_l2Text.f k a0_2).bind fun t482 => (if t482 = true then ((spec_l1In.f a0_3 0 3).bind fun t483 => (if t483 = true then ((spec_l1In.f a0_4 0 100000).bind fun t484 => (some t484)) else (some false))) else (some false))) else (some false))
theorem spec_l3Item.mono : ∀ a0 a1 a2 a3 a4 k, LeO (spec_l3Item.f k a0 a1 a2 a3 a4) (spec_l3Item.f (k + 1) a0 a1 a2 a3 a4) := by
  intro a0 a1 a2 a3 a4 k
  unfold spec_l3Item.f
  repeat' first
      | (with_reducible exact spec_l2Text.mono _ _)
      | (with_reducible exact LeO.refl _)
      | (with_reducible exact LeO.none _)
      | (with_reducible refine LeO.ite ?_ ?_)
      | (with_reducible refine LeO.bind ?_ (fun _ => ?_))
      | exact spec_l2Text.mono _ _
      | exact LeO.none _
      | refine LeO.ite ?_ ?_
      | refine LeO.bind ?_ (fun _ => ?_)
set_option maxHeartbeats 8000000 in
set_option maxRecDepth 100000 in
theorem spec_l3Item.calls (k : Nat) (a0_0 : Int) (a0_1 : ByteArray) (a0_2 : ByteArray) (a0_3 : Int) (a0_4 : Int) (r : Bool) (w : World) (h : spec_l3Item.f k a0_0 a0_1 a0_2 a0_3 a0_4 = some r) :
    Calls Try.prog 83 #[.agg #[.int .i64 a0_0, .string a0_1, .string a0_2, .int .i64 a0_3, .int .i64 a0_4]] w fun e w' => e = .returned (.bool r) ∧ Below w.heap.size w w' := by
  have hu55 := Try.underlying55
  have HB := Aside0.mk (Below.refl w.heap.size w)
  have H : ((spec_l2Text.f k a0_1).bind fun t481 => (if t481 = true then ((spec_l2Text.f k a0_2).bind fun t482 => (if t482 = true then ((spec_l1In.f a0_3 0 3).bind fun t483 => (if t483 = true then ((spec_l1In.f a0_4 0 100000).bind fun t484 => (some t484)) else (some false))) else (some false))) else (some false))) = some r := h
  clear h
  replace H := Option.bind_eq_some_iff.mp H
  obtain ⟨t481, A20, H⟩ := H
  replace H : (if t481 = true then ((spec_l2Text.f k a0_2).bind fun t482 => (if t482 = true then ((spec_l1In.f a0_3 0 3).bind fun t483 => (if t483 = true then ((spec_l1In.f a0_4 0 100000).bind fun t484 => (some t484)) else (some false))) else (some false))) else (some false)) = some r := H
  have A2 := Aside0.mk A20
  clear A20
  by_cases c3 : t481 = true
  · subst c3
    have H1 : ((spec_l2Text.f k a0_2).bind fun t482 => (if t482 = true then ((spec_l1In.f a0_3 0 3).bind fun t483 => (if t483 = true then ((spec_l1In.f a0_4 0 100000).bind fun t484 => (some t484)) else (some false))) else (some false))) = some r := by rw [if_pos rfl] at H; exact H
    clear H
    have H := H1
    clear H1
    replace H := Option.bind_eq_some_iff.mp H
    obtain ⟨t482, A40, H⟩ := H
    replace H : (if t482 = true then ((spec_l1In.f a0_3 0 3).bind fun t483 => (if t483 = true then ((spec_l1In.f a0_4 0 100000).bind fun t484 => (some t484)) else (some false))) else (some false)) = some r := H
    have A4 := Aside0.mk A40
    clear A40
    by_cases c5 : t482 = true
    · subst c5
      have H1 : ((spec_l1In.f a0_3 0 3).bind fun t483 => (if t483 = true then ((spec_l1In.f a0_4 0 100000).bind fun t484 => (some t484)) else (some false))) = some r := by rw [if_pos rfl] at H; exact H
      clear H
      have H := H1
      clear H1
      replace H := Option.bind_eq_some_iff.mp H
      obtain ⟨t483, A60, H⟩ := H
      replace H : (if t483 = true then ((spec_l1In.f a0_4 0 100000).bind fun t484 => (some t484)) else (some false)) = some r := H
      have A6 := Aside0.mk A60
      clear A60
      by_cases c7 : t483 = true
      · subst c7
        have H1 : ((spec_l1In.f a0_4 0 100000).bind fun t484 => (some t484)) = some r := by rw [if_pos rfl] at H; exact H
        clear H
        have H := H1
        clear H1
        replace H := Option.bind_eq_some_iff.mp H
        obtain ⟨t484, A80, H⟩ := H
        replace H : (some t484) = some r := H
        have A8 := Aside0.mk A80
        clear A80
        obtain rfl := Option.some.inj H
        go_enter Try.func83, Try.ntmps83
        go_wp2_with (first | ((with_reducible refine gate_dst (N := 1) rfl ?_); refine box_event ?hg (N := 1) ?hd (cs := #[.int .i64 a0_0, .string a0_1, .string a0_2, .int .i64 a0_3, .int .i64 a0_4]) (t := 55) ?hr ?_; (case hd => rfl); (case hg => rfl); (case hr => first | (go_simp; done) | (go_simp; rfl)); intro gb480 hg w9 hbox hb; have n0_ := Aside0.mk (below_step (qc0_) hb); have n1_ := Aside0.mk (hbox); have n2_ := Aside0.mk ((by rw [hg]; exact (below_size (qc0_)) : w.heap.size ≤ gb480)); have n3_ := Aside0.mk ((by rw [hg]; exact (below_size (qc0_)) : w.heap.size ≤ gb480)); clear HB; have HB := n0_; have BK480 := n1_; have GW480 := n2_; have GE480 := n3_; clear n0_ n1_ n2_ n3_; clear hb hbox hg; have hcz10_0 : w9.cell? ⟨gb480, 0, none⟩ = some (.int .i64 a0_0) := bc_ BK480 0; have hcz10_1 : w9.cell? ⟨gb480, 1, none⟩ = some (.string a0_1) := bc_ BK480 1; have hcz10_2 : w9.cell? ⟨gb480, 2, none⟩ = some (.string a0_2) := bc_ BK480 2; have hcz10_3 : w9.cell? ⟨gb480, 3, none⟩ = some (.int .i64 a0_3) := bc_ BK480 3; have hcz10_4 : w9.cell? ⟨gb480, 4, none⟩ = some (.int .i64 a0_4) := bc_ BK480 4; have hfz10_0 := blk_frozen BK480.out 0; have hfz10_1 := blk_frozen BK480.out 1; have hfz10_2 := blk_frozen BK480.out 2; have hfz10_3 := blk_frozen BK480.out 3; have hfz10_4 := blk_frozen BK480.out 4) | ((with_reducible refine gate_callee (f := 60) rfl ?_); refine goesL_ (some 5) rfl rfl Try.func60 (by kernel_rfl) rfl #[.string a0_1] rfl (qc2_) ?_; (with_reducible refine (spec_l2Text.calls k a0_1 true _ A2.out).mono ?_); rintro e w' ⟨rfl, ⟨nd, rfl⟩⟩; refine ⟨_, rfl, ?_⟩) | (go_at_call 60; (with_reducible refine (spec_l2Text.calls k a0_2 true _ A4.out).mono ?_); rintro e w' ⟨rfl, ⟨nd, rfl⟩⟩) | (go_at_call 58; (with_reducible refine (spec_l1In.calls a0_3 0 3 true _ A6.out).mono ?_); rintro e w' ⟨rfl, ⟨nd, rfl⟩⟩) | (go_at_call 58; (with_reducible refine (spec_l1In.calls a0_4 0 100000 t484 _ A8.out).mono ?_); rintro e w' ⟨rfl, ⟨nd, rfl⟩⟩))
        go_ret
        exact ⟨qc4_, qc8_⟩
      · replace c7 := Bool.eq_false_iff.mpr c7
        subst c7
        have H1 : (some false) = some r := by rw [if_neg (show ¬ (false = true) by decide)] at H; exact H
        clear H
        have H := H1
        clear H1
        obtain rfl := Option.some.inj H
        go_enter Try.func83, Try.ntmps83
        go_wp2_with (first | ((with_reducible refine gate_dst (N := 1) rfl ?_); refine box_event ?hg (N := 1) ?hd (cs := #[.int .i64 a0_0, .string a0_1, .string a0_2, .int .i64 a0_3, .int .i64 a0_4]) (t := 55) ?hr ?_; (case hd => rfl); (case hg => rfl); (case hr => first | (go_simp; done) | (go_simp; rfl)); intro gb480 hg w11 hbox hb; have n0_ := Aside0.mk (below_step (qc0_) hb); have n1_ := Aside0.mk (hbox); have n2_ := Aside0.mk ((by rw [hg]; exact (below_size (qc0_)) : w.heap.size ≤ gb480)); have n3_ := Aside0.mk ((by rw [hg]; exact (below_size (qc0_)) : w.heap.size ≤ gb480)); clear HB; have HB := n0_; have BK480 := n1_; have GW480 := n2_; have GE480 := n3_; clear n0_ n1_ n2_ n3_; clear hb hbox hg; have hcz12_0 : w11.cell? ⟨gb480, 0, none⟩ = some (.int .i64 a0_0) := bc_ BK480 0; have hcz12_1 : w11.cell? ⟨gb480, 1, none⟩ = some (.string a0_1) := bc_ BK480 1; have hcz12_2 : w11.cell? ⟨gb480, 2, none⟩ = some (.string a0_2) := bc_ BK480 2; have hcz12_3 : w11.cell? ⟨gb480, 3, none⟩ = some (.int .i64 a0_3) := bc_ BK480 3; have hcz12_4 : w11.cell? ⟨gb480, 4, none⟩ = some (.int .i64 a0_4) := bc_ BK480 4; have hfz12_0 := blk_frozen BK480.out 0; have hfz12_1 := blk_frozen BK480.out 1; have hfz12_2 := blk_frozen BK480.out 2; have hfz12_3 := blk_frozen BK480.out 3; have hfz12_4 := blk_frozen BK480.out 4) | ((with_reducible refine gate_callee (f := 60) rfl ?_); refine goesL_ (some 5) rfl rfl Try.func60 (by kernel_rfl) rfl #[.string a0_1] rfl (qc2_) ?_; (with_reducible refine (spec_l2Text.calls k a0_1 true _ A2.out).mono ?_); rintro e w' ⟨rfl, ⟨nd, rfl⟩⟩; refine ⟨_, rfl, ?_⟩) | (go_at_call 60; (with_reducible refine (spec_l2Text.calls k a0_2 true _ A4.out).mono ?_); rintro e w' ⟨rfl, ⟨nd, rfl⟩⟩) | (go_at_call 58; (with_reducible refine (spec_l1In.calls a0_3 0 3 false _ A6.out).mono ?_); rintro e w' ⟨rfl, ⟨nd, rfl⟩⟩))
        go_ret
        exact ⟨qc4_, qc8_⟩
    · replace c5 := Bool.eq_false_iff.mpr c5
      subst c5
      have H1 : (some false) = some r := by rw [if_neg (show ¬ (false = true) by decide)] at H; exact H
      clear H
      have H := H1
      clear H1
      obtain rfl := Option.some.inj H
      go_enter Try.func83, Try.ntmps83
      go_wp2_with (first | ((with_reducible refine gate_dst (N := 1) rfl ?_); refine box_event ?hg (N := 1) ?hd (cs := #[.int .i64 a0_0, .string a0_1, .string a0_2, .int .i64 a0_3, .int .i64 a0_4]) (t := 55) ?hr ?_; (case hd => rfl); (case hg => rfl); (case hr => first | (go_simp; done) | (go_simp; rfl)); intro gb480 hg w13 hbox hb; have n0_ := Aside0.mk (below_step (qc0_) hb); have n1_ := Aside0.mk (hbox); have n2_ := Aside0.mk ((by rw [hg]; exact (below_size (qc0_)) : w.heap.size ≤ gb480)); have n3_ := Aside0.mk ((by rw [hg]; exact (below_size (qc0_)) : w.heap.size ≤ gb480)); clear HB; have HB := n0_; have BK480 := n1_; have GW480 := n2_; have GE480 := n3_; clear n0_ n1_ n2_ n3_; clear hb hbox hg; have hcz14_0 : w13.cell? ⟨gb480, 0, none⟩ = some (.int .i64 a0_0) := bc_ BK480 0; have hcz14_1 : w13.cell? ⟨gb480, 1, none⟩ = some (.string a0_1) := bc_ BK480 1; have hcz14_2 : w13.cell? ⟨gb480, 2, none⟩ = some (.string a0_2) := bc_ BK480 2; have hcz14_3 : w13.cell? ⟨gb480, 3, none⟩ = some (.int .i64 a0_3) := bc_ BK480 3; have hcz14_4 : w13.cell? ⟨gb480, 4, none⟩ = some (.int .i64 a0_4) := bc_ BK480 4; have hfz14_0 := blk_frozen BK480.out 0; have hfz14_1 := blk_frozen BK480.out 1; have hfz14_2 := blk_frozen BK480.out 2; have hfz14_3 := blk_frozen BK480.out 3; have hfz14_4 := blk_frozen BK480.out 4) | ((with_reducible refine gate_callee (f := 60) rfl ?_); refine goesL_ (some 5) rfl rfl Try.func60 (by kernel_rfl) rfl #[.string a0_1] rfl (qc2_) ?_; (with_reducible refine (spec_l2Text.calls k a0_1 true _ A2.out).mono ?_); rintro e w' ⟨rfl, ⟨nd, rfl⟩⟩; refine ⟨_, rfl, ?_⟩) | (go_at_call 60; (with_reducible refine (spec_l2Text.calls k a0_2 false _ A4.out).mono ?_); rintro e w' ⟨rfl, ⟨nd, rfl⟩⟩))
      go_ret
      exact ⟨qc4_, qc8_⟩
  · replace c3 := Bool.eq_false_iff.mpr c3
    subst c3
    have H1 : (some false) = some r := by rw [if_neg (show ¬ (false = true) by decide)] at H; exact H
    clear H
    have H := H1
    clear H1
    obtain rfl := Option.some.inj H
    go_enter Try.func83, Try.ntmps83
    go_wp2_with (first | ((with_reducible refine gate_dst (N := 1) rfl ?_); refine box_event ?hg (N := 1) ?hd (cs := #[.int .i64 a0_0, .string a0_1, .string a0_2, .int .i64 a0_3, .int .i64 a0_4]) (t := 55) ?hr ?_; (case hd => rfl); (case hg => rfl); (case hr => first | (go_simp; done) | (go_simp; rfl)); intro gb480 hg w15 hbox hb; have n0_ := Aside0.mk (below_step (qc0_) hb); have n1_ := Aside0.mk (hbox); have n2_ := Aside0.mk ((by rw [hg]; exact (below_size (qc0_)) : w.heap.size ≤ gb480)); have n3_ := Aside0.mk ((by rw [hg]; exact (below_size (qc0_)) : w.heap.size ≤ gb480)); clear HB; have HB := n0_; have BK480 := n1_; have GW480 := n2_; have GE480 := n3_; clear n0_ n1_ n2_ n3_; clear hb hbox hg; have hcz16_0 : w15.cell? ⟨gb480, 0, none⟩ = some (.int .i64 a0_0) := bc_ BK480 0; have hcz16_1 : w15.cell? ⟨gb480, 1, none⟩ = some (.string a0_1) := bc_ BK480 1; have hcz16_2 : w15.cell? ⟨gb480, 2, none⟩ = some (.string a0_2) := bc_ BK480 2; have hcz16_3 : w15.cell? ⟨gb480, 3, none⟩ = some (.int .i64 a0_3) := bc_ BK480 3; have hcz16_4 : w15.cell? ⟨gb480, 4, none⟩ = some (.int .i64 a0_4) := bc_ BK480 4; have hfz16_0 := blk_frozen BK480.out 0; have hfz16_1 := blk_frozen BK480.out 1; have hfz16_2 := blk_frozen BK480.out 2; have hfz16_3 := blk_frozen BK480.out 3; have hfz16_4 := blk_frozen BK480.out 4) | ((with_reducible refine gate_callee (f := 60) rfl ?_); refine goesL_ (some 5) rfl rfl Try.func60 (by kernel_rfl) rfl #[.string a0_1] rfl (qc2_) ?_; (with_reducible refine (spec_l2Text.calls k a0_1 false _ A2.out).mono ?_); rintro e w' ⟨rfl, ⟨nd, rfl⟩⟩; refine ⟨_, rfl, ?_⟩))
    go_ret
    exact ⟨qc4_, qc8_⟩
/-! ### spec_RowOk: function 69 -/
abbrev spec_RowOk.m0 : Array Bool := #[f_,f_,f_,f_,f_,f_,f_,f_,f_,f_,f_,f_,f_,f_,f_,f_,f_,f_,f_,f_,f_,f_,f_,f_,f_,f_,f_,f_,f_,f_,f_,f_,f_,f_,f_,f_,f_,f_,f_,f_,f_,f_]
abbrev spec_RowOk.m1 : Array Bool := #[t_,f_,f_,f_,f_,f_,f_,f_,f_,f_,f_,f_,f_,f_,f_,f_,f_,f_,f_,f_,f_,f_,f_,f_,f_,f_,f_,f_,f_,f_,f_,f_,f_,f_,f_,f_,f_,f_,f_,f_,f_,f_]
abbrev spec_RowOk.m2 : Array Bool := #[t_,f_,t_,f_,f_,f_,f_,f_,f_,f_,f_,f_,f_,f_,f_,f_,f_,f_,f_,f_,f_,f_,f_,f_,f_,f_,f_,f_,f_,f_,f_,f_,f_,f_,f_,f_,f_,f_,f_,f_,f_,f_]
abbrev spec_RowOk.m3 : Array Bool := #[t_,t_,t_,f_,f_,f_,f_,f_,f_,f_,f_,f_,f_,f_,f_,f_,f_,f_,f_,f_,f_,f_,f_,f_,f_,f_,f_,f_,f_,f_,f_,f_,f_,f_,f_,f_,f_,f_,f_,f_,f_,f_]
abbrev spec_RowOk.m4 : Array Bool := #[t_,t_,t_,t_,f_,f_,f_,f_,f_,f_,f_,f_,f_,f_,f_,f_,f_,f_,f_,f_,f_,f_,f_,f_,f_,f_,f_,f_,f_,f_,f_,f_,f_,f_,f_,f_,f_,f_,f_,f_,f_,f_]
abbrev spec_RowOk.m5 : Array Bool := #[t_,t_,t_,t_,t_,f_,f_,f_,f_,f_,f_,f_,f_,f_,f_,f_,f_,f_,f_,f_,f_,f_,f_,f_,f_,f_,f_,f_,f_,f_,f_,f_,f_,f_,f_,f_,f_,f_,f_,f_,f_,f_]
abbrev spec_RowOk.m6 : Array Bool := #[t_,t_,t_,t_,t_,t_,f_,f_,f_,f_,f_,f_,f_,f_,f_,f_,f_,f_,f_,f_,f_,f_,f_,f_,f_,f_,f_,f_,f_,f_,f_,f_,f_,f_,f_,f_,f_,f_,f_,f_,f_,f_]
abbrev spec_RowOk.m7 : Array Bool := #[t_,t_,t_,t_,t_,t_,t_,f_,f_,f_,f_,f_,f_,f_,f_,f_,f_,f_,f_,f_,f_,f_,f_,f_,f_,f_,f_,f_,f_,f_,f_,f_,f_,f_,f_,f_,f_,f_,f_,f_,f_,f_]
abbrev spec_RowOk.m8 : Array Bool := #[t_,t_,t_,t_,t_,t_,t_,t_,f_,f_,f_,f_,f_,f_,f_,f_,f_,f_,f_,f_,f_,f_,f_,f_,f_,f_,f_,f_,f_,f_,f_,f_,f_,f_,f_,f_,f_,f_,f_,f_,f_,f_]
abbrev spec_RowOk.m9 : Array Bool := #[t_,t_,t_,t_,t_,t_,t_,t_,t_,f_,f_,f_,f_,f_,f_,f_,f_,f_,f_,f_,f_,f_,f_,f_,f_,f_,f_,f_,f_,f_,f_,f_,f_,f_,f_,f_,f_,f_,f_,f_,f_,f_]
abbrev spec_RowOk.m10 : Array Bool := #[t_,t_,t_,t_,t_,t_,t_,t_,t_,f_,t_,f_,f_,f_,f_,f_,f_,f_,f_,f_,f_,f_,f_,f_,f_,f_,f_,f_,f_,f_,f_,f_,f_,f_,f_,f_,f_,f_,f_,f_,f_,f_]
abbrev spec_RowOk.m11 : Array Bool := #[t_,t_,t_,t_,t_,t_,t_,t_,t_,f_,t_,f_,f_,f_,t_,f_,f_,f_,f_,f_,f_,f_,f_,f_,f_,f_,f_,f_,f_,f_,f_,f_,f_,f_,f_,f_,f_,f_,f_,f_,f_,f_]
abbrev spec_RowOk.m12 : Array Bool := #[t_,t_,t_,t_,t_,t_,t_,t_,t_,f_,t_,f_,f_,f_,t_,f_,t_,f_,f_,f_,f_,f_,f_,f_,f_,f_,f_,f_,f_,f_,f_,f_,f_,f_,f_,f_,f_,f_,f_,f_,f_,f_]
abbrev spec_RowOk.m13 : Array Bool := #[t_,t_,t_,t_,t_,t_,t_,t_,t_,t_,t_,f_,f_,f_,t_,f_,t_,f_,f_,f_,f_,f_,f_,f_,f_,f_,f_,f_,f_,f_,f_,f_,f_,f_,f_,f_,f_,f_,f_,f_,f_,f_]
abbrev spec_RowOk.m14 : Array Bool := #[t_,t_,t_,t_,t_,t_,t_,t_,t_,t_,t_,t_,f_,f_,t_,f_,t_,f_,f_,f_,f_,f_,f_,f_,f_,f_,f_,f_,f_,f_,f_,f_,f_,f_,f_,f_,f_,f_,f_,f_,f_,f_]
abbrev spec_RowOk.m15 : Array Bool := #[t_,t_,t_,t_,t_,t_,t_,t_,t_,t_,t_,t_,t_,f_,t_,f_,t_,f_,f_,f_,f_,f_,f_,f_,f_,f_,f_,f_,f_,f_,f_,f_,f_,f_,f_,f_,f_,f_,f_,f_,f_,f_]
abbrev spec_RowOk.m16 : Array Bool := #[t_,t_,t_,t_,t_,t_,t_,t_,t_,t_,t_,t_,t_,t_,t_,f_,t_,f_,f_,f_,f_,f_,f_,f_,f_,f_,f_,f_,f_,f_,f_,f_,f_,f_,f_,f_,f_,f_,f_,f_,f_,f_]
abbrev spec_RowOk.m17 : Array Bool := #[t_,t_,t_,t_,t_,t_,t_,t_,t_,t_,t_,t_,t_,t_,t_,t_,t_,f_,f_,f_,f_,f_,f_,f_,f_,f_,f_,f_,f_,f_,f_,f_,f_,f_,f_,f_,f_,f_,f_,f_,f_,f_]
abbrev spec_RowOk.m18 : Array Bool := #[t_,t_,t_,t_,t_,t_,t_,t_,t_,t_,t_,t_,t_,t_,t_,t_,t_,t_,f_,f_,f_,f_,f_,f_,f_,f_,f_,f_,f_,f_,f_,f_,f_,f_,f_,f_,f_,f_,f_,f_,f_,f_]
abbrev spec_RowOk.m19 : Array Bool := #[t_,t_,t_,t_,t_,t_,t_,t_,t_,t_,t_,t_,t_,t_,t_,t_,t_,t_,t_,f_,f_,f_,f_,f_,f_,f_,f_,f_,f_,f_,f_,f_,f_,f_,f_,f_,f_,f_,f_,f_,f_,f_]
abbrev spec_RowOk.m20 : Array Bool := #[t_,t_,t_,t_,t_,t_,t_,t_,t_,t_,t_,t_,t_,t_,t_,t_,t_,t_,t_,t_,f_,f_,f_,f_,f_,f_,f_,f_,f_,f_,f_,f_,f_,f_,f_,f_,f_,f_,f_,f_,f_,f_]
abbrev spec_RowOk.m21 : Array Bool := #[t_,t_,t_,t_,t_,t_,t_,t_,t_,t_,t_,t_,t_,t_,t_,t_,t_,t_,t_,t_,t_,f_,f_,f_,f_,f_,f_,f_,f_,f_,f_,f_,f_,f_,f_,f_,f_,f_,f_,f_,f_,f_]
abbrev spec_RowOk.m22 : Array Bool := #[t_,t_,t_,t_,t_,t_,t_,t_,t_,t_,t_,t_,t_,t_,t_,t_,t_,t_,t_,t_,t_,t_,f_,f_,f_,f_,f_,f_,f_,f_,f_,f_,f_,f_,f_,f_,f_,f_,f_,f_,f_,f_]
abbrev spec_RowOk.m23 : Array Bool := #[t_,t_,t_,t_,t_,t_,t_,t_,t_,t_,t_,t_,t_,t_,t_,t_,t_,t_,t_,t_,t_,t_,t_,f_,f_,f_,f_,f_,f_,f_,f_,f_,f_,f_,f_,f_,f_,f_,f_,f_,f_,f_]
abbrev spec_RowOk.m24 : Array Bool := #[t_,t_,t_,t_,t_,t_,t_,t_,t_,t_,t_,t_,t_,t_,t_,t_,t_,t_,t_,t_,t_,t_,t_,t_,f_,f_,f_,f_,f_,f_,f_,f_,f_,f_,f_,f_,f_,f_,f_,f_,f_,f_]
abbrev spec_RowOk.m25 : Array Bool := #[t_,t_,t_,t_,t_,t_,t_,t_,t_,t_,t_,t_,t_,t_,t_,t_,t_,t_,t_,t_,t_,t_,t_,t_,t_,f_,f_,f_,f_,f_,f_,f_,f_,f_,f_,f_,f_,f_,f_,f_,f_,f_]
abbrev spec_RowOk.m26 : Array Bool := #[t_,t_,t_,t_,t_,t_,t_,t_,t_,t_,t_,t_,t_,t_,t_,t_,t_,t_,t_,t_,t_,t_,t_,t_,t_,t_,f_,f_,f_,f_,f_,f_,f_,f_,f_,f_,f_,f_,f_,f_,f_,f_]
abbrev spec_RowOk.m27 : Array Bool := #[t_,t_,t_,t_,t_,t_,t_,t_,t_,t_,t_,t_,t_,t_,t_,t_,t_,t_,t_,t_,t_,t_,t_,t_,t_,t_,t_,f_,f_,f_,f_,f_,f_,f_,f_,f_,f_,f_,f_,f_,f_,f_]
abbrev spec_RowOk.m28 : Array Bool := #[t_,t_,t_,t_,t_,t_,t_,t_,t_,t_,t_,t_,t_,t_,t_,t_,t_,t_,t_,t_,t_,t_,t_,t_,t_,t_,t_,t_,t_,t_,t_,t_,t_,t_,t_,t_,f_,f_,f_,f_,f_,f_]
abbrev spec_RowOk.m29 : Array Bool := #[t_,t_,t_,t_,t_,t_,t_,t_,t_,t_,t_,t_,t_,t_,t_,t_,t_,t_,t_,t_,t_,t_,t_,t_,t_,t_,t_,t_,t_,t_,t_,t_,t_,t_,t_,t_,t_,f_,f_,f_,f_,f_]
abbrev spec_RowOk.m30 : Array Bool := #[t_,t_,t_,t_,t_,t_,t_,t_,t_,t_,t_,t_,t_,t_,t_,t_,t_,t_,t_,t_,t_,t_,t_,t_,t_,t_,t_,t_,t_,t_,t_,t_,t_,t_,t_,t_,t_,t_,f_,f_,f_,f_]
abbrev spec_RowOk.m31 : Array Bool := #[t_,t_,t_,t_,t_,t_,t_,t_,t_,t_,t_,t_,t_,t_,t_,t_,t_,t_,t_,t_,t_,t_,t_,t_,t_,t_,t_,t_,t_,t_,t_,t_,t_,t_,t_,t_,t_,t_,t_,f_,f_,f_]
abbrev spec_RowOk.m32 : Array Bool := #[t_,t_,t_,t_,t_,t_,t_,t_,t_,t_,t_,t_,t_,t_,t_,t_,t_,t_,t_,t_,t_,t_,t_,t_,t_,t_,t_,t_,t_,t_,t_,t_,t_,t_,t_,t_,t_,t_,t_,t_,f_,f_]
abbrev spec_RowOk.m33 : Array Bool := #[t_,t_,t_,t_,t_,t_,t_,t_,t_,t_,t_,t_,t_,t_,t_,t_,t_,t_,t_,t_,t_,t_,t_,t_,t_,t_,t_,t_,t_,t_,t_,t_,t_,t_,t_,t_,t_,t_,t_,t_,t_,f_]
abbrev spec_RowOk.m34 : Array Bool := #[t_,t_,t_,t_,t_,t_,t_,t_,t_,t_,t_,t_,t_,t_,t_,t_,t_,t_,t_,t_,t_,t_,t_,t_,t_,t_,t_,t_,t_,t_,t_,t_,t_,t_,t_,t_,t_,t_,t_,t_,t_,t_]
abbrev spec_RowOk.m35 : Array Bool := #[t_,t_,t_,t_,t_,t_,t_,t_,t_,t_,t_,t_,t_,t_,t_,t_,t_,t_,t_,t_,t_,t_,t_,t_,t_,t_,t_,t_,f_,f_,f_,f_,f_,f_,f_,f_,f_,f_,f_,f_,f_,f_]
abbrev spec_RowOk.m36 : Array Bool := #[t_,t_,t_,t_,t_,t_,t_,t_,t_,t_,t_,t_,t_,t_,t_,t_,t_,t_,t_,t_,t_,t_,t_,t_,t_,t_,t_,t_,t_,f_,f_,f_,f_,f_,f_,f_,f_,f_,f_,f_,f_,f_]
abbrev spec_RowOk.m37 : Array Bool := #[t_,t_,t_,t_,t_,t_,t_,t_,t_,t_,t_,t_,t_,t_,t_,t_,t_,t_,t_,t_,t_,t_,t_,t_,t_,t_,t_,t_,t_,t_,f_,f_,f_,f_,f_,f_,f_,f_,f_,f_,f_,f_]
abbrev spec_RowOk.m38 : Array Bool := #[t_,t_,t_,t_,t_,t_,t_,t_,t_,t_,t_,t_,t_,t_,t_,t_,t_,t_,t_,t_,t_,t_,t_,t_,t_,t_,t_,t_,t_,t_,t_,f_,f_,f_,f_,f_,f_,f_,f_,f_,f_,f_]
abbrev spec_RowOk.m39 : Array Bool := #[t_,t_,t_,t_,t_,t_,t_,t_,t_,t_,t_,t_,t_,t_,t_,t_,t_,t_,t_,t_,t_,t_,t_,t_,t_,t_,t_,t_,t_,t_,t_,t_,f_,f_,f_,f_,f_,f_,f_,f_,f_,f_]
abbrev spec_RowOk.m40 : Array Bool := #[t_,t_,t_,t_,t_,t_,t_,t_,t_,t_,t_,t_,t_,t_,t_,t_,t_,t_,t_,t_,t_,t_,t_,t_,t_,t_,t_,t_,t_,t_,t_,t_,t_,f_,f_,f_,f_,f_,f_,f_,f_,f_]
abbrev spec_RowOk.m41 : Array Bool := #[t_,t_,t_,t_,t_,t_,t_,t_,t_,t_,t_,t_,t_,t_,t_,t_,t_,t_,t_,t_,t_,t_,t_,t_,t_,t_,t_,t_,t_,t_,t_,t_,t_,t_,f_,f_,f_,f_,f_,f_,f_,f_]
abbrev spec_RowOk.m42 : Array Bool := #[t_,t_,t_,t_,t_,t_,t_,t_,t_,t_,t_,t_,t_,t_,t_,t_,t_,t_,t_,t_,t_,t_,t_,t_,t_,t_,t_,t_,t_,t_,t_,t_,t_,t_,t_,f_,f_,f_,f_,f_,f_,f_]
mutual
def spec_RowOk.j3 : Nat → Int → Int → List (S_Item) → Option (Bool)
 | 0, _, _, _ => none
 | k + 1, x486000, x486001, x486002 => (spec_l1In.f x486000 0 x486001).bind fun t492 => (if t492 = true then (if x486001 ≤ 100000 then (some (decide ((x486002.length : Int) ≤ 80))) else (some false)) else (some false))
def spec_RowOk.l0 : Nat → Int → Int → Int → List (S_Item) → Option (Bool)
 | 0, _, _, _, _ => none
 | k + 1, x3, x486000, x486001, x486002 => if x3 < (x486002.length : Int) then (spec_RowOk.j1 k x3 x486000 x486001 x486002) else (spec_RowOk.j3 k x486000 x486001 x486002)
def spec_RowOk.j1 : Nat → Int → Int → Int → List (S_Item) → Option (Bool)
 | 0, _, _, _, _ => none
 | k + 1, x3, x486000, x486001, x486002 => if 0 ≤ x3 then (if x3 < (x486002.length : Int) then ((spec_l3Item.f k ((rd_Item x486002 x3).f0) ((rd_Item x486002 x3).f1) ((rd_Item x486002 x3).f2) ((rd_Item x486002 x3).f3) ((rd_Item x486002 x3).f4)).bind fun t487 => (if t487 = true then ((spec_l1In.f ((rd_Item x486002 x3).f0) x486000 (wrap64 (x486001 - 1))).bind fun t489 => (if t489 = true then (if x3 > 0 then (if 0 ≤ (wrap64 (x3 - 1)) then (if (wrap64 (x3 - 1)) < (x486002.length : Int) then (spec_RowOk.j2 k x3 (decide (((rd_Item x486002 (wrap64 (x3 - 1))).f0) ≥ ((rd_Item x486002 x3).f0))) x486000 x486001 x486002) else (none)) else (none)) else (spec_RowOk.j2 k x3 false x486000 x486001 x486002)) else (spec_RowOk.j2 k x3 true x486000 x486001 x486002))) else (spec_RowOk.j2 k x3 true x486000 x486001 x486002))) else (none)) else (none)
def spec_RowOk.j2 : Nat → Int → Bool → Int → Int → List (S_Item) → Option (Bool)
 | 0, _, _, _, _, _ => none
 | k + 1, x3, x52, x486000, x486001, x486002 => if x52 = true then (some false) else (spec_RowOk.l0 k (wrap64 (x3 + 1)) x486000 x486001 x486002)
end
def spec_RowOk.f (k : Nat) (a0_0 : Int) (a0_1 : Int) (l0_2 : List (S_Item)) : Option (Bool) := spec_RowOk.l0 k 0 a0_0 a0_1 l0_2
theorem spec_RowOk.mono_l : ∀ k, (∀ y0 y1 y2, LeO (spec_RowOk.j3 k y0 y1 y2) (spec_RowOk.j3 (k + 1) y0 y1 y2)) ∧ (∀ y0 y1 y2 y3, LeO (spec_RowOk.l0 k y0 y1 y2 y3) (spec_RowOk.l0 (k + 1) y0 y1 y2 y3)) ∧ (∀ y0 y1 y2 y3, LeO (spec_RowOk.j1 k y0 y1 y2 y3) (spec_RowOk.j1 (k + 1) y0 y1 y2 y3)) ∧ (∀ y0 y1 y2 y3 y4, LeO (spec_RowOk.j2 k y0 y1 y2 y3 y4) (spec_RowOk.j2 (k + 1) y0 y1 y2 y3 y4))
 | 0 => ⟨fun _ _ _ r h => by simp [spec_RowOk.j3] at h, fun _ _ _ _ r h => by simp [spec_RowOk.l0] at h, fun _ _ _ _ r h => by simp [spec_RowOk.j1] at h, fun _ _ _ _ _ r h => by simp [spec_RowOk.j2] at h⟩
 | k + 1 => by
  obtain ⟨ih0, ih1, ih2, ih3⟩ := spec_RowOk.mono_l k
  refine ⟨?_, ?_, ?_, ?_⟩
  ·
   intro y0 y1 y2
   unfold spec_RowOk.j3
   repeat' first
   | (with_reducible exact ih0 _ _ _)
   | (with_reducible exact ih1 _ _ _ _)
   | (with_reducible exact ih2 _ _ _ _)
   | (with_reducible exact ih3 _ _ _ _ _)
   | (with_reducible exact spec_l3Item.mono _ _ _ _ _ _)
   | (with_reducible exact LeO.refl _)
   | (with_reducible exact LeO.none _)
   | (with_reducible refine LeO.ite ?_ ?_)
   | (with_reducible refine LeO.bind ?_ (fun _ => ?_))
   | exact ih0 _ _ _
   | exact ih1 _ _ _ _
   | exact ih2 _ _ _ _
   | exact ih3 _ _ _ _ _
   | exact spec_l3Item.mono _ _ _ _ _ _
   | exact LeO.none _
   | refine LeO.ite ?_ ?_
   | refine LeO.bind ?_ (fun _ => ?_)
  ·
   intro y0 y1 y2 y3
   unfold spec_RowOk.l0
   repeat' first
   | (with_reducible exact ih0 _ _ _)
   | (with_reducible exact ih1 _ _ _ _)
   | (with_reducible exact ih2 _ _ _ _)
   | (with_reducible exact ih3 _ _ _ _ _)
   | (with_reducible exact spec_l3Item.mono _ _ _ _ _ _)
   | (with_reducible exact LeO.refl _)
   | (with_reducible exact LeO.none _)
   | (with_reducible refine LeO.ite ?_ ?_)
   | (with_reducible refine LeO.bind ?_ (fun _ => ?_))
   | exact ih0 _ _ _
   | exact ih1 _ _ _ _
   | exact ih2 _ _ _ _
   | exact ih3 _ _ _ _ _
   | exact spec_l3Item.mono _ _ _ _ _ _
   | exact LeO.none _
   | refine LeO.ite ?_ ?_
   | refine LeO.bind ?_ (fun _ => ?_)
  ·
   intro y0 y1 y2 y3
   unfold spec_RowOk.j1
   repeat' first
   | (with_reducible exact ih0 _ _ _)
   | (with_reducible exact ih1 _ _ _ _)
   | (with_reducible exact ih2 _ _ _ _)
   | (with_reducible exact ih3 _ _ _ _ _)
   | (with_reducible exact spec_l3Item.mono _ _ _ _ _ _)
   | (with_reducible exact LeO.refl _)
   | (with_reducible exact LeO.none _)
   | (with_reducible refine LeO.ite ?_ ?_)
   | (with_reducible refine LeO.bind ?_ (fun _ => ?_))
   | exact ih0 _ _ _
   | exact ih1 _ _ _ _
   | exact ih2 _ _ _ _
   | exact ih3 _ _ _ _ _
   | exact spec_l3Item.mono _ _ _ _ _ _
   | exact LeO.none _
   | refine LeO.ite ?_ ?_
   | refine LeO.bind ?_ (fun _ => ?_)
  ·
   intro y0 y1 y2 y3 y4
   unfold spec_RowOk.j2
   repeat' first
   | (with_reducible exact ih0 _ _ _)
   | (with_reducible exact ih1 _ _ _ _)
   | (with_reducible exact ih2 _ _ _ _)
   | (with_reducible exact ih3 _ _ _ _ _)
   | (with_reducible exact spec_l3Item.mono _ _ _ _ _ _)
   | (with_reducible exact LeO.refl _)
   | (with_reducible exact LeO.none _)
   | (with_reducible refine LeO.ite ?_ ?_)
   | (with_reducible refine LeO.bind ?_ (fun _ => ?_))
   | exact ih0 _ _ _
   | exact ih1 _ _ _ _
   | exact ih2 _ _ _ _
   | exact ih3 _ _ _ _ _
   | exact spec_l3Item.mono _ _ _ _ _ _
   | exact LeO.none _
   | refine LeO.ite ?_ ?_
   | refine LeO.bind ?_ (fun _ => ?_)
theorem spec_RowOk.mono : ∀ a0 a1 a2 k, LeO (spec_RowOk.f k a0 a1 a2) (spec_RowOk.f (k + 1) a0 a1 a2) := by
 intro a0 a1 a2 k
 obtain ⟨ih0, ih1, ih2, ih3⟩ := spec_RowOk.mono_l k
 unfold spec_RowOk.f
 repeat' first
  | (with_reducible exact ih0 _ _ _)
  | (with_reducible exact ih1 _ _ _ _)
  | (with_reducible exact ih2 _ _ _ _)
  | (with_reducible exact ih3 _ _ _ _ _)
  | (with_reducible exact spec_l3Item.mono _ _ _ _ _ _)
  | (with_reducible exact LeO.refl _)
  | (with_reducible exact LeO.none _)
  | (with_reducible refine LeO.ite ?_ ?_)
  | (with_reducible refine LeO.bind ?_ (fun _ => ?_))
  | exact ih0 _ _ _
  | exact ih1 _ _ _ _
  | exact ih2 _ _ _ _
  | exact ih3 _ _ _ _ _
  | exact spec_l3Item.mono _ _ _ _ _ _
  | exact LeO.none _
  | refine LeO.ite ?_ ?_
  | refine LeO.bind ?_ (fun _ => ?_)
def spec_RowOk.T4 : Bool × List (List Nat × List Nat) := (true, [([], []), ([0], [0]), ([], []), ([1, 2], [1, 2]), ([3], [3]), ([4], [4]), ([5], [5]), ([6, 5], [6]), ([7], [7]), ([8, 7], [7, 8]), ([7], [7]), ([9, 10, 7], [7, 9, 10]), ([11, 7], [7, 11]), ([12, 7], [7, 12]), ([7], [7]), ([14, 7], [7, 14]), ([7], [7]), ([16, 7], [7, 16]), ([17, 7], [7, 17]), ([13, 15, 18, 7, 7], [7, 13, 15, 18]), ([19, 7], [7, 19]), ([7, 20], [7, 20]), ([21, 19], [21]), ([22], [22]), ([23, 22], [22, 23]), ([24, 22, 22], [22, 24]), ([25], [25]), ([26, 25], [25, 26]), ([25], [25]), ([28, 25], [25, 28]), ([27, 29, 25], [25, 27, 29]), ([30, 25], [25, 30]), ([31, 25], [25, 31]), ([25], [25]), ([33, 25], [25, 33]), ([25], [25]), ([34, 35, 25], [25, 34, 35]), ([36, 25], [25, 36]), ([37, 25], [25, 37]), ([32, 38, 25], [25, 32, 38]), ([25, 39, 22], [22, 25, 39]), ([22, 40], [22, 40])])
def spec_RowOk.B4 : List Nat := [0, 1, 0, 7, 15, 31, 63, 127, 255, 511, 255, 2047, 4095, 8191, 255, 16639, 255, 65791, 196863, 524287, 1048575, 2097151, 4194303, 8388607, 16777215, 33554431, 67108863, 134217727, 67108863, 335544319, 1073741823, 2147483647, 4294967295, 67108863, 8657043455, 67108863, 60196651007, 128916127743, 266355081215, 549755813887, 1099511627775, 2199023255551]
theorem spec_RowOk.tab4 : rtab .any (opsOf Try.f69 4) = spec_RowOk.T4 := by kernel_rfl
theorem spec_RowOk.bits4 : waitsOk spec_RowOk.T4.2 spec_RowOk.B4 = true := by kernel_rfl
set_option maxHeartbeats 8000000 in
set_option maxRecDepth 100000 in
theorem spec_RowOk.calls (k : Nat) (a0_0 : Int) (a0_1 : Int) (A0_2 : Option Addr) (c0_2 : Nat) (l0_2 : List (S_Item)) (r : Bool) (w : World) (hr0_2 : Kd.C k_Item w A0_2 l0_2.length l0_2) (hc0_2 : l0_2.length ≤ c0_2) (h : spec_RowOk.f k a0_0 a0_1 l0_2 = some r) :
 Calls Try.prog 69 #[.agg #[.int .i64 a0_0, .int .i64 a0_1, .slice A0_2 l0_2.length c0_2]] w fun e w' => e = .returned (.bool r) ∧ Below w.heap.size w w' := by
 have hu48 := Try.underlying48
 have hu55 := Try.underlying55
 have HR0_2 := Aside0.mk hr0_2
 have HC0_2 := Aside0.mk hc0_2
 clear hr0_2 hc0_2
 have HB := Aside0.mk (Below.refl w.heap.size w)
 have H : (spec_RowOk.l0 k 0 a0_0 a0_1 l0_2) = some r := h
 clear h
 have HC2 := Aside0.mk H
 clear H
 go_enter Try.func69, Try.ntmps69
 go_upto_block 0 with (first | ((with_reducible refine gate_dst (N := 1) rfl ?_); (try (refine gate_guard (by rfl) ?_; dsimp only)); refine box_event ?hg (N := 1) ?hd (cs := #[.int .i64 a0_0, .int .i64 a0_1, .slice A0_2 l0_2.length c0_2]) (t := 48) ?hr ?_; (case hd => rfl); (case hg => rfl); (case hr => first | (go_simp; done) | (go_simp; rfl)); intro gb485 hg w3 hbox hb; have n0_ := Aside0.mk (below_step (hb_ HB.out) hb); have n1_ := Aside0.mk (hbox); have n2_ := Aside0.mk ((by rw [hg]; exact (below_size (hb_ HB.out)) : w.heap.size ≤ gb485)); have n3_ := Aside0.mk ((by rw [hg]; exact (below_size (hb_ HB.out)) : w.heap.size ≤ gb485)); clear HB; have HB := n0_; have BK485 := n1_; have GW485 := n2_; have GE485 := n3_; clear n0_ n1_ n2_ n3_; clear hb hbox hg))
 (try simp only [Act.put, List.setIfInBounds_toArray, List.set_cons_zero, List.set_cons_succ])
 go_cut [] (fun wc => ∃ (kq : Nat), Aside0 (spec_RowOk.j3 kq a0_0 a0_1 l0_2 = some r) ∧ Aside0 (kq ≤ k) ∧ Aside0 (wc.heap[gb485]? = some (.cells #[.int .i64 a0_0, .int .i64 a0_1, (.slice A0_2 l0_2.length c0_2)] 48 (0, 0))) ∧ Aside0 (Below w.heap.size w wc))
 case first =>
  have H := HC2.out
  clear HC2
  have H' := Aside0.mk H
  clear H
  go_wp2
  go_loopg [3] k (fun kq v3 w' => ∃ (x3_1 : Int), v3 = .int .i64 x3_1 ∧ Aside0 (spec_RowOk.l0 kq x3_1 a0_0 a0_1 l0_2 = some r) ∧ Aside0 (kq ≤ k) ∧ Aside0 (w'.heap[gb485]? = some (.cells #[.int .i64 a0_0, .int .i64 a0_1, (.slice A0_2 l0_2.length c0_2)] 48 (0, 0))) ∧ Aside0 (Below w.heap.size w w'))
  case atStart => exact ⟨(0), (qc9_), H', ⟨Nat.le_refl _⟩, ⟨bq_ BK485.out⟩, ⟨hb_ HB.out⟩⟩
  case round =>
   clear H'
   try clear p2
   obtain ⟨x3_1, rfl, HA, HK1, BK485, HB⟩ := hrel
   cases gk with
   | zero => exact absurd HA.out (by simp [spec_RowOk.l0])
   | succ k1 =>
    have H := HA.out
    clear HA
    simp only [spec_RowOk.l0] at H
    have HC4 := Aside0.mk H
    clear H
    have hcz5_0 : wr.cell? ⟨gb485, 0, none⟩ = some (.int .i64 a0_0) := bc_ BK485 0
    have hcz5_1 : wr.cell? ⟨gb485, 1, none⟩ = some (.int .i64 a0_1) := bc_ BK485 1
    have hcz5_2 : wr.cell? ⟨gb485, 2, none⟩ = some (.slice A0_2 l0_2.length c0_2) := bc_ BK485 2
    have hfz5_0 := blk_frozen BK485.out 0
    have hfz5_1 := blk_frozen BK485.out 1
    have hfz5_2 := blk_frozen BK485.out 2
    go_upto_if 8 with (fail)
    go_cut [] (fun wc => ∃ (kq : Nat), Aside0 (spec_RowOk.j1 kq x3_1 a0_0 a0_1 l0_2 = some r) ∧ Aside0 (kq ≤ k1) ∧ Aside0 (wc.heap[gb485]? = some (.cells #[.int .i64 a0_0, .int .i64 a0_1, (.slice A0_2 l0_2.length c0_2)] 48 (0, 0))) ∧ Aside0 (Below w.heap.size w wc))
    case first =>
     have H := HC4.out
     clear HC4
     by_cases c6 : x3_1 < (l0_2.length : Int)
     ·
      rw [if_pos c6] at H
      have c6b0 : decide (x3_1 < (l0_2.length : Int)) = true := decide_eq_true c6
      clear c6
      (first | rw [c6b0] | (simp only [i64_w, i32_w]; rw [c6b0]) | rw [c6b4] | rw [c6b3] | skip)
      have H' := Aside0.mk H
      clear H
      go_wp2
      go_meet
      case rel => exact ⟨_, H', ⟨by have := HK1.out; first | omega | exact Nat.le_refl _⟩, ⟨bq_ BK485.out⟩, ⟨hb_ HB.out⟩⟩
     ·
      rw [if_neg c6] at H
      have c6b0 : decide (x3_1 < (l0_2.length : Int)) = false := decide_eq_false c6
      clear c6
      (first | rw [c6b0] | (simp only [i64_w, i32_w]; rw [c6b0]) | rw [c6b4] | rw [c6b3] | skip)
      have H' := Aside0.mk H
      clear H
      go_wp2
      go_meet
      case rel => exact ⟨_, H', ⟨by have := HK1.out; first | omega | exact Nat.le_refl _⟩, ⟨bq_ BK485.out⟩, ⟨hb_ HB.out⟩⟩
    case rest =>
     clear HC4
     (try clear p2); (try clear c6); (try clear c6b0); (try clear hcz5_0); (try clear hcz5_1); (try clear hcz5_2); (try clear hfz5_0); (try clear hfz5_1); (try clear hfz5_2); (try clear p2)
     obtain ⟨kq, HA, HJ3, BK485, HB⟩ := hcut
     cases kq with
     | zero => exact absurd HA.out (by simp [spec_RowOk.j1])
     | succ kj3 =>
      have H := HA.out
      clear HA
      simp only [spec_RowOk.j1] at H
      have HC7 := Aside0.mk H
      clear H
      go_upto_region 4 with (fail)
      go_cut [52] (fun v52 wc => ∃ (kq : Nat) (x52_6 : Bool), v52 = .bool x52_6 ∧ Aside0 (spec_RowOk.j2 kq x3_1 x52_6 a0_0 a0_1 l0_2 = some r) ∧ Aside0 (kq ≤ kj3) ∧ Aside0 (wc.heap[gb485]? = some (.cells #[.int .i64 a0_0, .int .i64 a0_1, (.slice A0_2 l0_2.length c0_2)] 48 (0, 0))) ∧ Aside0 (Below w.heap.size w wc))
      case first =>
       have H := HC7.out
       clear HC7
       by_cases c8 : 0 ≤ x3_1
       ·
        rw [if_pos c8] at H
        have c8b0 : decide (0 ≤ x3_1) = true := decide_eq_true c8
        clear c8
        (first | rw [c8b0] | (simp only [i64_w, i32_w]; rw [c8b0]) | rw [c8b4] | rw [c8b3] | skip)
        by_cases c9 : x3_1 < (l0_2.length : Int)
        ·
         rw [if_pos c9] at H
         have c9b0 : decide (x3_1 < (l0_2.length : Int)) = true := decide_eq_true c9
         clear c9
         replace H := Option.bind_eq_some_iff.mp H
         obtain ⟨t487, A100, H⟩ := H
         replace H : (if t487 = true then ((spec_l1In.f ((rd_Item l0_2 x3_1).f0) a0_0 (wrap64 (a0_1 - 1))).bind fun t489 => (if t489 = true then (if x3_1 > 0 then (if 0 ≤ (wrap64 (x3_1 - 1)) then (if (wrap64 (x3_1 - 1)) < (l0_2.length : Int) then (spec_RowOk.j2 kj3 x3_1 (decide (((rd_Item l0_2 (wrap64 (x3_1 - 1))).f0) ≥ ((rd_Item l0_2 x3_1).f0))) a0_0 a0_1 l0_2) else (none)) else (none)) else (spec_RowOk.j2 kj3 x3_1 false a0_0 a0_1 l0_2)) else (spec_RowOk.j2 kj3 x3_1 true a0_0 a0_1 l0_2))) else (spec_RowOk.j2 kj3 x3_1 true a0_0 a0_1 l0_2)) = some r := H
         have A10 := Aside0.mk A100
         clear A100
         by_cases c11 : t487 = true
         ·
          subst c11
          have H1 : ((spec_l1In.f ((rd_Item l0_2 x3_1).f0) a0_0 (wrap64 (a0_1 - 1))).bind fun t489 => (if t489 = true then (if x3_1 > 0 then (if 0 ≤ (wrap64 (x3_1 - 1)) then (if (wrap64 (x3_1 - 1)) < (l0_2.length : Int) then (spec_RowOk.j2 kj3 x3_1 (decide (((rd_Item l0_2 (wrap64 (x3_1 - 1))).f0) ≥ ((rd_Item l0_2 x3_1).f0))) a0_0 a0_1 l0_2) else (none)) else (none)) else (spec_RowOk.j2 kj3 x3_1 false a0_0 a0_1 l0_2)) else (spec_RowOk.j2 kj3 x3_1 true a0_0 a0_1 l0_2))) = some r := by rw [if_pos rfl] at H; exact H
          clear H
          have H := H1
          clear H1
          replace H := Option.bind_eq_some_iff.mp H
          obtain ⟨t489, A120, H⟩ := H
          replace H : (if t489 = true then (if x3_1 > 0 then (if 0 ≤ (wrap64 (x3_1 - 1)) then (if (wrap64 (x3_1 - 1)) < (l0_2.length : Int) then (spec_RowOk.j2 kj3 x3_1 (decide (((rd_Item l0_2 (wrap64 (x3_1 - 1))).f0) ≥ ((rd_Item l0_2 x3_1).f0))) a0_0 a0_1 l0_2) else (none)) else (none)) else (spec_RowOk.j2 kj3 x3_1 false a0_0 a0_1 l0_2)) else (spec_RowOk.j2 kj3 x3_1 true a0_0 a0_1 l0_2)) = some r := H
          have A12 := Aside0.mk A120
          clear A120
          by_cases c13 : t489 = true
          ·
           subst c13
           have H1 : (if x3_1 > 0 then (if 0 ≤ (wrap64 (x3_1 - 1)) then (if (wrap64 (x3_1 - 1)) < (l0_2.length : Int) then (spec_RowOk.j2 kj3 x3_1 (decide (((rd_Item l0_2 (wrap64 (x3_1 - 1))).f0) ≥ ((rd_Item l0_2 x3_1).f0))) a0_0 a0_1 l0_2) else (none)) else (none)) else (spec_RowOk.j2 kj3 x3_1 false a0_0 a0_1 l0_2)) = some r := by rw [if_pos rfl] at H; exact H
           clear H
           have H := H1
           clear H1
           by_cases c14 : x3_1 > 0
           ·
            rw [if_pos c14] at H
            have c14b0 : decide (0 < x3_1) = true := decide_eq_true c14
            clear c14
            obtain ⟨ji15, hji15⟩ : ∃ j_ : Int, (wrap64 (x3_1 - 1)) = j_ := ⟨_, rfl⟩
            replace H : (if 0 ≤ (ji15) then (if (ji15) < (l0_2.length : Int) then (spec_RowOk.j2 kj3 x3_1 (decide (((rd_Item l0_2 (ji15)).f0) ≥ ((rd_Item l0_2 x3_1).f0))) a0_0 a0_1 l0_2) else (none)) else (none)) = some r := by first | (rw [hji15] at H; exact H) | (simp only [hji15] at H ⊢; exact H)
            (try rw [hji15] at A10)
            (try rw [hji15] at A12)
            have hji15w : (IntKind.i64.wrap (x3_1 - 1)) = ji15 := (i64_w _).trans hji15
            by_cases c16 : 0 ≤ (ji15)
            ·
             rw [if_pos c16] at H
             have c16b0 : decide (0 ≤ (ji15)) = true := decide_eq_true c16
             clear c16
             by_cases c17 : (ji15) < (l0_2.length : Int)
             ·
              rw [if_pos c17] at H
              have c17b0 : decide ((ji15) < (l0_2.length : Int)) = true := decide_eq_true c17
              clear c17
              have H' := Aside0.mk H
              clear H
              try go_wp2
              have n0_ := Aside0.mk (blk_drew BK485.out)
              have n1_ := Aside0.mk (below_drew1 HB.out)
              clear BK485; clear HB
              have BK485 := n0_
              have HB := n1_
              clear n0_ n1_
              have p486 : 0 ≤ (x3_1 : Int) := of_decide_eq_true dt_
              have q486 : x3_1 < (l0_2.length : Int) := of_decide_eq_true dt_
              obtain ⟨ad486, e486, hx486_0, hx486_1, hx486_2, hx486_3, hx486_4⟩ := at_Item HR0_2.out x3_1 p486 q486
              have hw486_4 := hx486_4
              have hw486_3 := hx486_3
              have hw486_2 := hx486_2
              have hw486_1 := hx486_1
              have hw486_0 := hx486_0
              cases e486
              replace hx486_0 := hc_ HB hx486_0
              replace hx486_1 := hc_ HB hx486_1
              replace hx486_2 := hc_ HB hx486_2
              replace hx486_3 := hc_ HB hx486_3
              replace hx486_4 := hc_ HB hx486_4
              replace p486 := eq_true p486
              replace q486 := eq_true q486
              have p488 : 0 ≤ (x3_1 : Int) := of_decide_eq_true dt_
              have q488 : x3_1 < (l0_2.length : Int) := of_decide_eq_true dt_
              obtain ⟨ad488, e488, hx488_0, hx488_1, hx488_2, hx488_3, hx488_4⟩ := at_Item HR0_2.out x3_1 p488 q488
              have hw488_4 := hx488_4
              have hw488_3 := hx488_3
              have hw488_2 := hx488_2
              have hw488_1 := hx488_1
              have hw488_0 := hx488_0
              obtain rfl : ad486 = ad488 := (by injection e488)
              replace hx488_0 := hc_ HB hx488_0
              replace hx488_1 := hc_ HB hx488_1
              replace hx488_2 := hc_ HB hx488_2
              replace hx488_3 := hc_ HB hx488_3
              replace hx488_4 := hc_ HB hx488_4
              replace p488 := eq_true p488
              replace q488 := eq_true q488
              have p490 : 0 ≤ ((ji15) : Int) := of_decide_eq_true dt_
              have q490 : (ji15) < (l0_2.length : Int) := of_decide_eq_true dt_
              obtain ⟨ad490, e490, hx490_0, hx490_1, hx490_2, hx490_3, hx490_4⟩ := at_Item HR0_2.out (ji15) p490 q490
              have hw490_4 := hx490_4
              have hw490_3 := hx490_3
              have hw490_2 := hx490_2
              have hw490_1 := hx490_1
              have hw490_0 := hx490_0
              obtain rfl : ad486 = ad490 := (by injection e490)
              replace hx490_0 := hc_ HB hx490_0
              replace hx490_1 := hc_ HB hx490_1
              replace hx490_2 := hc_ HB hx490_2
              replace hx490_3 := hc_ HB hx490_3
              replace hx490_4 := hc_ HB hx490_4
              replace p490 := eq_true p490
              replace q490 := eq_true q490
              have p491 : 0 ≤ (x3_1 : Int) := of_decide_eq_true dt_
              have q491 : x3_1 < (l0_2.length : Int) := of_decide_eq_true dt_
              obtain ⟨ad491, e491, hx491_0, hx491_1, hx491_2, hx491_3, hx491_4⟩ := at_Item HR0_2.out x3_1 p491 q491
              have hw491_4 := hx491_4
              have hw491_3 := hx491_3
              have hw491_2 := hx491_2
              have hw491_1 := hx491_1
              have hw491_0 := hx491_0
              obtain rfl : ad486 = ad491 := (by injection e491)
              replace hx491_0 := hc_ HB hx491_0
              replace hx491_1 := hc_ HB hx491_1
              replace hx491_2 := hc_ HB hx491_2
              replace hx491_3 := hc_ HB hx491_3
              replace hx491_4 := hc_ HB hx491_4
              replace p491 := eq_true p491
              replace q491 := eq_true q491
              refine start_ (n := 42) (S := fun w' => w'.cell? ⟨gb485, 0, none⟩ = some (.int .i64 a0_0) ∧ w'.cell? ⟨gb485, 1, none⟩ = some (.int .i64 a0_1) ∧ w'.cell? ⟨gb485, 2, none⟩ = some (.slice (some ad486) l0_2.length c0_2) ∧ w'.cell? (ad486.add ((x3_1).toNat * 5)) = some (.int .i64 ((rd_Item l0_2 x3_1).f0)) ∧ w'.cell? ⟨(ad486.add ((x3_1).toNat * 5)).block, (ad486.add ((x3_1).toNat * 5)).off + 1, none⟩ = some (.string ((rd_Item l0_2 x3_1).f1)) ∧ w'.cell? ⟨(ad486.add ((x3_1).toNat * 5)).block, (ad486.add ((x3_1).toNat * 5)).off + 2, none⟩ = some (.string ((rd_Item l0_2 x3_1).f2)) ∧ w'.cell? ⟨(ad486.add ((x3_1).toNat * 5)).block, (ad486.add ((x3_1).toNat * 5)).off + 3, none⟩ = some (.int .i64 ((rd_Item l0_2 x3_1).f3)) ∧ w'.cell? ⟨(ad486.add ((x3_1).toNat * 5)).block, (ad486.add ((x3_1).toNat * 5)).off + 4, none⟩ = some (.int .i64 ((rd_Item l0_2 x3_1).f4)) ∧ w'.cell? (ad486.add ((x3_1).toNat * 5)) = some (.int .i64 ((rd_Item l0_2 x3_1).f0)) ∧ w'.cell? ⟨(ad486.add ((x3_1).toNat * 5)).block, (ad486.add ((x3_1).toNat * 5)).off + 1, none⟩ = some (.string ((rd_Item l0_2 x3_1).f1)) ∧ w'.cell? ⟨(ad486.add ((x3_1).toNat * 5)).block, (ad486.add ((x3_1).toNat * 5)).off + 2, none⟩ = some (.string ((rd_Item l0_2 x3_1).f2)) ∧ w'.cell? ⟨(ad486.add ((x3_1).toNat * 5)).block, (ad486.add ((x3_1).toNat * 5)).off + 3, none⟩ = some (.int .i64 ((rd_Item l0_2 x3_1).f3)) ∧ w'.cell? ⟨(ad486.add ((x3_1).toNat * 5)).block, (ad486.add ((x3_1).toNat * 5)).off + 4, none⟩ = some (.int .i64 ((rd_Item l0_2 x3_1).f4)) ∧ w'.cell? (ad486.add (((ji15)).toNat * 5)) = some (.int .i64 ((rd_Item l0_2 (ji15)).f0)) ∧ w'.cell? ⟨(ad486.add (((ji15)).toNat * 5)).block, (ad486.add (((ji15)).toNat * 5)).off + 1, none⟩ = some (.string ((rd_Item l0_2 (ji15)).f1)) ∧ w'.cell? ⟨(ad486.add (((ji15)).toNat * 5)).block, (ad486.add (((ji15)).toNat * 5)).off + 2, none⟩ = some (.string ((rd_Item l0_2 (ji15)).f2)) ∧ w'.cell? ⟨(ad486.add (((ji15)).toNat * 5)).block, (ad486.add (((ji15)).toNat * 5)).off + 3, none⟩ = some (.int .i64 ((rd_Item l0_2 (ji15)).f3)) ∧ w'.cell? ⟨(ad486.add (((ji15)).toNat * 5)).block, (ad486.add (((ji15)).toNat * 5)).off + 4, none⟩ = some (.int .i64 ((rd_Item l0_2 (ji15)).f4)) ∧ w'.cell? (ad486.add ((x3_1).toNat * 5)) = some (.int .i64 ((rd_Item l0_2 x3_1).f0)) ∧ w'.cell? ⟨(ad486.add ((x3_1).toNat * 5)).block, (ad486.add ((x3_1).toNat * 5)).off + 1, none⟩ = some (.string ((rd_Item l0_2 x3_1).f1)) ∧ w'.cell? ⟨(ad486.add ((x3_1).toNat * 5)).block, (ad486.add ((x3_1).toNat * 5)).off + 2, none⟩ = some (.string ((rd_Item l0_2 x3_1).f2)) ∧ w'.cell? ⟨(ad486.add ((x3_1).toNat * 5)).block, (ad486.add ((x3_1).toNat * 5)).off + 3, none⟩ = some (.int .i64 ((rd_Item l0_2 x3_1).f3)) ∧ w'.cell? ⟨(ad486.add ((x3_1).toNat * 5)).block, (ad486.add ((x3_1).toNat * 5)).off + 4, none⟩ = some (.int .i64 ((rd_Item l0_2 x3_1).f4))) (ds := []) spec_RowOk.m0 (by kernel_rfl) rfl rfl ⟨bc_ BK485 0, bc_ BK485 1, bc_ BK485 2, (hd_ HB hw486_0), (hd_ HB hw486_1), (hd_ HB hw486_2), (hd_ HB hw486_3), (hd_ HB hw486_4), (hd_ HB hw488_0), (hd_ HB hw488_1), (hd_ HB hw488_2), (hd_ HB hw488_3), (hd_ HB hw488_4), (hd_ HB hw490_0), (hd_ HB hw490_1), (hd_ HB hw490_2), (hd_ HB hw490_3), (hd_ HB hw490_4), (hd_ HB hw491_0), (hd_ HB hw491_1), (hd_ HB hw491_2), (hd_ HB hw491_3), (hd_ HB hw491_4)⟩ (fun hHeld => ?_); refine with_tabW spec_RowOk.tab4 spec_RowOk.bits4 (fun HT_ HW_ => ?_)
              generalize wc.drew = w18 at BK485 HB hx486_0 hx486_1 hx486_2 hx486_3 hx486_4 hx488_0 hx488_1 hx488_2 hx488_3 hx488_4 hx490_0 hx490_1 hx490_2 hx490_3 hx490_4 hx491_0 hx491_1 hx491_2 hx491_3 hx491_4 hHeld ⊢
              refine pI_ 0 11 HT_ spec_RowOk.m1 rfl rfl ?_
              refine pI_ 2 13 HT_ spec_RowOk.m2 rfl rfl ?_
              refine tk_ 1 12 HT_ HW_ spec_RowOk.m3 rfl rfl hHeld ?_
              refine pI_ 3 14 HT_ spec_RowOk.m4 rfl rfl ?_
              refine tk_ 4 15 HT_ HW_ spec_RowOk.m5 rfl rfl hHeld ?_
              refine on_ 5 16 HT_ spec_RowOk.m6 rfl rfl (fun K hK => ?_)
              refine goes_ Try.func83 (by kernel_rfl) rfl #[.agg #[.int .i64 ((rd_Item l0_2 x3_1).f0), .string ((rd_Item l0_2 x3_1).f1), .string ((rd_Item l0_2 x3_1).f2), .int .i64 ((rd_Item l0_2 x3_1).f3), .int .i64 ((rd_Item l0_2 x3_1).f4)]] (by rfl) rfl rfl sm_ ?_
              with_reducible refine (spec_l3Item.calls kj3 ((rd_Item l0_2 x3_1).f0) ((rd_Item l0_2 x3_1).f1) ((rd_Item l0_2 x3_1).f2) ((rd_Item l0_2 x3_1).f3) ((rd_Item l0_2 x3_1).f4) true _ A10.out).mono ?_
              rintro e w19 ⟨rfl, hb⟩
              refine ⟨_, rfl, ?_⟩
              have n0_ := Aside0.mk (bb_ BK485.out hb)
              have n1_ := Aside0.mk (below_step (hb_ HB.out) hb)
              clear BK485; clear HB
              have BK485 := n0_
              have HB := n1_
              clear n0_ n1_
              (try clear hb)
              (try clear hb2)
              (try clear hk)
              (try clear hi)
              refine hK.out _ _ ⟨bc_ BK485 0, bc_ BK485 1, bc_ BK485 2, (hd_ HB hw486_0), (hd_ HB hw486_1), (hd_ HB hw486_2), (hd_ HB hw486_3), (hd_ HB hw486_4), (hd_ HB hw488_0), (hd_ HB hw488_1), (hd_ HB hw488_2), (hd_ HB hw488_3), (hd_ HB hw488_4), (hd_ HB hw490_0), (hd_ HB hw490_1), (hd_ HB hw490_2), (hd_ HB hw490_3), (hd_ HB hw490_4), (hd_ HB hw491_0), (hd_ HB hw491_1), (hd_ HB hw491_2), (hd_ HB hw491_3), (hd_ HB hw491_4)⟩ (fun hHeld => ?_)
              clear hK K
              refine nm_ ?_
              refine pI_ 6 17 HT_ spec_RowOk.m7 rfl rfl ?_
              refine pI_ 7 18 HT_ spec_RowOk.m8 rfl rfl ?_
              refine pI_ 8 19 HT_ spec_RowOk.m9 rfl rfl ?_
              refine pI_ 10 21 HT_ spec_RowOk.m10 rfl rfl ?_
              refine pI_ 14 25 HT_ spec_RowOk.m11 rfl rfl ?_
              refine pI_ 16 27 HT_ spec_RowOk.m12 rfl rfl ?_
              refine tk_ 9 20 HT_ HW_ spec_RowOk.m13 rfl rfl hHeld ?_
              refine pI_ 11 22 HT_ spec_RowOk.m14 rfl rfl ?_
              refine pI_ 12 23 HT_ spec_RowOk.m15 rfl rfl ?_
              refine tk_ 13 24 HT_ HW_ spec_RowOk.m16 rfl rfl hHeld ?_
              refine tk_ 15 26 HT_ HW_ spec_RowOk.m17 rfl rfl hHeld ?_
              refine tk_ 17 28 HT_ HW_ spec_RowOk.m18 rfl rfl hHeld ?_
              refine pI_ 18 29 HT_ spec_RowOk.m19 rfl rfl ?_
              refine on_ 19 30 HT_ spec_RowOk.m20 rfl rfl (fun K hK => ?_)
              refine goes_ Try.func58 (by kernel_rfl) rfl #[.int .i64 ((rd_Item l0_2 x3_1).f0), .int .i64 a0_0, .int .i64 (wrap64 (a0_1 - 1))] (by rfl) rfl rfl sm_ ?_
              with_reducible refine (spec_l1In.calls ((rd_Item l0_2 x3_1).f0) a0_0 (wrap64 (a0_1 - 1)) true _ A12.out).mono ?_
              rintro e w' ⟨rfl, ⟨nd, rfl⟩⟩
              refine ⟨_, rfl, ?_⟩
              refine hK.out _ _ ⟨bc_ BK485 0, bc_ BK485 1, bc_ BK485 2, (hd_ HB hw486_0), (hd_ HB hw486_1), (hd_ HB hw486_2), (hd_ HB hw486_3), (hd_ HB hw486_4), (hd_ HB hw488_0), (hd_ HB hw488_1), (hd_ HB hw488_2), (hd_ HB hw488_3), (hd_ HB hw488_4), (hd_ HB hw490_0), (hd_ HB hw490_1), (hd_ HB hw490_2), (hd_ HB hw490_3), (hd_ HB hw490_4), (hd_ HB hw491_0), (hd_ HB hw491_1), (hd_ HB hw491_2), (hd_ HB hw491_3), (hd_ HB hw491_4)⟩ (fun hHeld => ?_)
              clear hK K
              refine nm_ ?_
              refine pI_ 20 31 HT_ spec_RowOk.m21 rfl rfl ?_
              refine pI_ 21 32 HT_ spec_RowOk.m22 rfl rfl ?_
              refine pI_ 22 33 HT_ spec_RowOk.m23 rfl rfl ?_
              refine pI_ 23 34 HT_ spec_RowOk.m24 rfl rfl ?_
              refine pI_ 24 35 HT_ spec_RowOk.m25 rfl rfl ?_
              refine pI_ 25 36 HT_ spec_RowOk.m26 rfl rfl ?_
              refine pI_ 26 37 HT_ spec_RowOk.m27 rfl rfl ?_
              refine pI_ 28 39 HT_ #[true, true, true, true, true, true, true, true, true, true, true, true, true, true, true, true, true, true, true, true, true, true, true, true, true, true, true, false, true, false, false, false, false, false, false, false, false, false, false, false, false, false] rfl rfl ?_
              refine pI_ 29 40 HT_ #[true, true, true, true, true, true, true, true, true, true, true, true, true, true, true, true, true, true, true, true, true, true, true, true, true, true, true, false, true, true, false, false, false, false, false, false, false, false, false, false, false, false] rfl rfl ?_
              refine pI_ 33 44 HT_ #[true, true, true, true, true, true, true, true, true, true, true, true, true, true, true, true, true, true, true, true, true, true, true, true, true, true, true, false, true, true, false, false, false, true, false, false, false, false, false, false, false, false] rfl rfl ?_
              refine pI_ 35 46 HT_ #[true, true, true, true, true, true, true, true, true, true, true, true, true, true, true, true, true, true, true, true, true, true, true, true, true, true, true, false, true, true, false, false, false, true, false, true, false, false, false, false, false, false] rfl rfl ?_
              refine tk_ 27 38 HT_ HW_ #[true, true, true, true, true, true, true, true, true, true, true, true, true, true, true, true, true, true, true, true, true, true, true, true, true, true, true, true, true, true, false, false, false, true, false, true, false, false, false, false, false, false] rfl rfl hHeld ?_
              refine pI_ 30 41 HT_ #[true, true, true, true, true, true, true, true, true, true, true, true, true, true, true, true, true, true, true, true, true, true, true, true, true, true, true, true, true, true, true, false, false, true, false, true, false, false, false, false, false, false] rfl rfl ?_
              refine pI_ 31 42 HT_ #[true, true, true, true, true, true, true, true, true, true, true, true, true, true, true, true, true, true, true, true, true, true, true, true, true, true, true, true, true, true, true, true, false, true, false, true, false, false, false, false, false, false] rfl rfl ?_
              refine tk_ 32 43 HT_ HW_ #[true, true, true, true, true, true, true, true, true, true, true, true, true, true, true, true, true, true, true, true, true, true, true, true, true, true, true, true, true, true, true, true, true, true, false, true, false, false, false, false, false, false] rfl rfl hHeld ?_
              refine tk_ 34 45 HT_ HW_ spec_RowOk.m28 rfl rfl hHeld ?_
              refine pI_ 36 47 HT_ spec_RowOk.m29 rfl rfl ?_
              refine pI_ 37 48 HT_ spec_RowOk.m30 rfl rfl ?_
              refine tk_ 38 49 HT_ HW_ spec_RowOk.m31 rfl rfl hHeld ?_
              refine pI_ 39 50 HT_ spec_RowOk.m32 rfl rfl ?_
              refine pI_ 40 51 HT_ spec_RowOk.m33 rfl rfl ?_
              refine pI_ 41 52 HT_ spec_RowOk.m34 rfl rfl ?_
              refine done_ (done_of HT_.out (by kernel_rfl)) ?_
              try go_wp2
              go_meet
              case rel => exact ⟨_, (decide (((rd_Item l0_2 (ji15)).f0) ≥ ((rd_Item l0_2 x3_1).f0))), (by first | rfl | (simp; done) | (simp only [← hji15] <;> (first | rfl | simp)) | (simp [*]; done)), H', ⟨qc11_⟩, ⟨bq_ BK485.out⟩, ⟨hb_ HB.out⟩⟩
             ·
              rw [if_neg c17] at H
              exact absurd H (by simp)
            ·
             rw [if_neg c16] at H
             exact absurd H (by simp)
           ·
            rw [if_neg c14] at H
            have c14b0 : decide (0 < x3_1) = false := decide_eq_false c14
            clear c14
            have H' := Aside0.mk H
            clear H
            try go_wp2
            have n0_ := Aside0.mk (blk_drew BK485.out)
            have n1_ := Aside0.mk (below_drew1 HB.out)
            clear BK485; clear HB
            have BK485 := n0_
            have HB := n1_
            clear n0_ n1_
            have p486 : 0 ≤ (x3_1 : Int) := of_decide_eq_true dt_
            have q486 : x3_1 < (l0_2.length : Int) := of_decide_eq_true dt_
            obtain ⟨ad486, e486, hx486_0, hx486_1, hx486_2, hx486_3, hx486_4⟩ := at_Item HR0_2.out x3_1 p486 q486
            have hw486_4 := hx486_4
            have hw486_3 := hx486_3
            have hw486_2 := hx486_2
            have hw486_1 := hx486_1
            have hw486_0 := hx486_0
            cases e486
            replace hx486_0 := hc_ HB hx486_0
            replace hx486_1 := hc_ HB hx486_1
            replace hx486_2 := hc_ HB hx486_2
            replace hx486_3 := hc_ HB hx486_3
            replace hx486_4 := hc_ HB hx486_4
            replace p486 := eq_true p486
            replace q486 := eq_true q486
            have p488 : 0 ≤ (x3_1 : Int) := of_decide_eq_true dt_
            have q488 : x3_1 < (l0_2.length : Int) := of_decide_eq_true dt_
            obtain ⟨ad488, e488, hx488_0, hx488_1, hx488_2, hx488_3, hx488_4⟩ := at_Item HR0_2.out x3_1 p488 q488
            have hw488_4 := hx488_4
            have hw488_3 := hx488_3
            have hw488_2 := hx488_2
            have hw488_1 := hx488_1
            have hw488_0 := hx488_0
            obtain rfl : ad486 = ad488 := (by injection e488)
            replace hx488_0 := hc_ HB hx488_0
            replace hx488_1 := hc_ HB hx488_1
            replace hx488_2 := hc_ HB hx488_2
            replace hx488_3 := hc_ HB hx488_3
            replace hx488_4 := hc_ HB hx488_4
            replace p488 := eq_true p488
            replace q488 := eq_true q488
            refine start_ (n := 42) (S := fun w' => w'.cell? ⟨gb485, 0, none⟩ = some (.int .i64 a0_0) ∧ w'.cell? ⟨gb485, 1, none⟩ = some (.int .i64 a0_1) ∧ w'.cell? ⟨gb485, 2, none⟩ = some (.slice (some ad486) l0_2.length c0_2) ∧ w'.cell? (ad486.add ((x3_1).toNat * 5)) = some (.int .i64 ((rd_Item l0_2 x3_1).f0)) ∧ w'.cell? ⟨(ad486.add ((x3_1).toNat * 5)).block, (ad486.add ((x3_1).toNat * 5)).off + 1, none⟩ = some (.string ((rd_Item l0_2 x3_1).f1)) ∧ w'.cell? ⟨(ad486.add ((x3_1).toNat * 5)).block, (ad486.add ((x3_1).toNat * 5)).off + 2, none⟩ = some (.string ((rd_Item l0_2 x3_1).f2)) ∧ w'.cell? ⟨(ad486.add ((x3_1).toNat * 5)).block, (ad486.add ((x3_1).toNat * 5)).off + 3, none⟩ = some (.int .i64 ((rd_Item l0_2 x3_1).f3)) ∧ w'.cell? ⟨(ad486.add ((x3_1).toNat * 5)).block, (ad486.add ((x3_1).toNat * 5)).off + 4, none⟩ = some (.int .i64 ((rd_Item l0_2 x3_1).f4)) ∧ w'.cell? (ad486.add ((x3_1).toNat * 5)) = some (.int .i64 ((rd_Item l0_2 x3_1).f0)) ∧ w'.cell? ⟨(ad486.add ((x3_1).toNat * 5)).block, (ad486.add ((x3_1).toNat * 5)).off + 1, none⟩ = some (.string ((rd_Item l0_2 x3_1).f1)) ∧ w'.cell? ⟨(ad486.add ((x3_1).toNat * 5)).block, (ad486.add ((x3_1).toNat * 5)).off + 2, none⟩ = some (.string ((rd_Item l0_2 x3_1).f2)) ∧ w'.cell? ⟨(ad486.add ((x3_1).toNat * 5)).block, (ad486.add ((x3_1).toNat * 5)).off + 3, none⟩ = some (.int .i64 ((rd_Item l0_2 x3_1).f3)) ∧ w'.cell? ⟨(ad486.add ((x3_1).toNat * 5)).block, (ad486.add ((x3_1).toNat * 5)).off + 4, none⟩ = some (.int .i64 ((rd_Item l0_2 x3_1).f4))) (ds := []) spec_RowOk.m0 (by kernel_rfl) rfl rfl ⟨bc_ BK485 0, bc_ BK485 1, bc_ BK485 2, (hd_ HB hw486_0), (hd_ HB hw486_1), (hd_ HB hw486_2), (hd_ HB hw486_3), (hd_ HB hw486_4), (hd_ HB hw488_0), (hd_ HB hw488_1), (hd_ HB hw488_2), (hd_ HB hw488_3), (hd_ HB hw488_4)⟩ (fun hHeld => ?_); refine with_tabW spec_RowOk.tab4 spec_RowOk.bits4 (fun HT_ HW_ => ?_)
            generalize wc.drew = w20 at BK485 HB hx486_0 hx486_1 hx486_2 hx486_3 hx486_4 hx488_0 hx488_1 hx488_2 hx488_3 hx488_4 hHeld ⊢
            refine pI_ 0 11 HT_ spec_RowOk.m1 rfl rfl ?_
            refine pI_ 2 13 HT_ spec_RowOk.m2 rfl rfl ?_
            refine tk_ 1 12 HT_ HW_ spec_RowOk.m3 rfl rfl hHeld ?_
            refine pI_ 3 14 HT_ spec_RowOk.m4 rfl rfl ?_
            refine tk_ 4 15 HT_ HW_ spec_RowOk.m5 rfl rfl hHeld ?_
            refine on_ 5 16 HT_ spec_RowOk.m6 rfl rfl (fun K hK => ?_)
            refine goes_ Try.func83 (by kernel_rfl) rfl #[.agg #[.int .i64 ((rd_Item l0_2 x3_1).f0), .string ((rd_Item l0_2 x3_1).f1), .string ((rd_Item l0_2 x3_1).f2), .int .i64 ((rd_Item l0_2 x3_1).f3), .int .i64 ((rd_Item l0_2 x3_1).f4)]] (by rfl) rfl rfl sm_ ?_
            with_reducible refine (spec_l3Item.calls kj3 ((rd_Item l0_2 x3_1).f0) ((rd_Item l0_2 x3_1).f1) ((rd_Item l0_2 x3_1).f2) ((rd_Item l0_2 x3_1).f3) ((rd_Item l0_2 x3_1).f4) true _ A10.out).mono ?_
            rintro e w21 ⟨rfl, hb⟩
            refine ⟨_, rfl, ?_⟩
            have n0_ := Aside0.mk (bb_ BK485.out hb)
            have n1_ := Aside0.mk (below_step (hb_ HB.out) hb)
            clear BK485; clear HB
            have BK485 := n0_
            have HB := n1_
            clear n0_ n1_
            (try clear hb)
            (try clear hb2)
            (try clear hk)
            (try clear hi)
            refine hK.out _ _ ⟨bc_ BK485 0, bc_ BK485 1, bc_ BK485 2, (hd_ HB hw486_0), (hd_ HB hw486_1), (hd_ HB hw486_2), (hd_ HB hw486_3), (hd_ HB hw486_4), (hd_ HB hw488_0), (hd_ HB hw488_1), (hd_ HB hw488_2), (hd_ HB hw488_3), (hd_ HB hw488_4)⟩ (fun hHeld => ?_)
            clear hK K
            refine nm_ ?_
            refine pI_ 6 17 HT_ spec_RowOk.m7 rfl rfl ?_
            refine pI_ 7 18 HT_ spec_RowOk.m8 rfl rfl ?_
            refine pI_ 8 19 HT_ spec_RowOk.m9 rfl rfl ?_
            refine pI_ 10 21 HT_ spec_RowOk.m10 rfl rfl ?_
            refine pI_ 14 25 HT_ spec_RowOk.m11 rfl rfl ?_
            refine pI_ 16 27 HT_ spec_RowOk.m12 rfl rfl ?_
            refine tk_ 9 20 HT_ HW_ spec_RowOk.m13 rfl rfl hHeld ?_
            refine pI_ 11 22 HT_ spec_RowOk.m14 rfl rfl ?_
            refine pI_ 12 23 HT_ spec_RowOk.m15 rfl rfl ?_
            refine tk_ 13 24 HT_ HW_ spec_RowOk.m16 rfl rfl hHeld ?_
            refine tk_ 15 26 HT_ HW_ spec_RowOk.m17 rfl rfl hHeld ?_
            refine tk_ 17 28 HT_ HW_ spec_RowOk.m18 rfl rfl hHeld ?_
            refine pI_ 18 29 HT_ spec_RowOk.m19 rfl rfl ?_
            refine on_ 19 30 HT_ spec_RowOk.m20 rfl rfl (fun K hK => ?_)
            refine goes_ Try.func58 (by kernel_rfl) rfl #[.int .i64 ((rd_Item l0_2 x3_1).f0), .int .i64 a0_0, .int .i64 (wrap64 (a0_1 - 1))] (by rfl) rfl rfl sm_ ?_
            with_reducible refine (spec_l1In.calls ((rd_Item l0_2 x3_1).f0) a0_0 (wrap64 (a0_1 - 1)) true _ A12.out).mono ?_
            rintro e w' ⟨rfl, ⟨nd, rfl⟩⟩
            refine ⟨_, rfl, ?_⟩
            refine hK.out _ _ ⟨bc_ BK485 0, bc_ BK485 1, bc_ BK485 2, (hd_ HB hw486_0), (hd_ HB hw486_1), (hd_ HB hw486_2), (hd_ HB hw486_3), (hd_ HB hw486_4), (hd_ HB hw488_0), (hd_ HB hw488_1), (hd_ HB hw488_2), (hd_ HB hw488_3), (hd_ HB hw488_4)⟩ (fun hHeld => ?_)
            clear hK K
            refine nm_ ?_
            refine pI_ 20 31 HT_ spec_RowOk.m21 rfl rfl ?_
            refine pI_ 21 32 HT_ spec_RowOk.m22 rfl rfl ?_
            refine pI_ 22 33 HT_ spec_RowOk.m23 rfl rfl ?_
            refine pI_ 23 34 HT_ spec_RowOk.m24 rfl rfl ?_
            refine pI_ 24 35 HT_ spec_RowOk.m25 rfl rfl ?_
            refine pI_ 25 36 HT_ spec_RowOk.m26 rfl rfl ?_
            refine pU_ 26 37 HT_ spec_RowOk.m27 rfl rfl ?_
            refine pU_ 27 38 HT_ spec_RowOk.m35 rfl rfl ?_
            refine pU_ 28 39 HT_ spec_RowOk.m36 rfl rfl ?_
            refine pU_ 29 40 HT_ spec_RowOk.m37 rfl rfl ?_
            refine pU_ 30 41 HT_ spec_RowOk.m38 rfl rfl ?_
            refine pU_ 31 42 HT_ spec_RowOk.m39 rfl rfl ?_
            refine pU_ 32 43 HT_ spec_RowOk.m40 rfl rfl ?_
            refine pU_ 33 44 HT_ spec_RowOk.m41 rfl rfl ?_
            refine pU_ 34 45 HT_ spec_RowOk.m42 rfl rfl ?_
            refine pU_ 35 46 HT_ spec_RowOk.m28 rfl rfl ?_
            refine pU_ 36 47 HT_ spec_RowOk.m29 rfl rfl ?_
            refine pU_ 37 48 HT_ spec_RowOk.m30 rfl rfl ?_
            refine pU_ 38 49 HT_ spec_RowOk.m31 rfl rfl ?_
            refine pU_ 39 50 HT_ spec_RowOk.m32 rfl rfl ?_
            refine pI_ 40 51 HT_ spec_RowOk.m33 rfl rfl ?_
            refine pI_ 41 52 HT_ spec_RowOk.m34 rfl rfl ?_
            refine done_ (done_of HT_.out (by kernel_rfl)) ?_
            try go_wp2
            go_meet
            case rel => exact ⟨_, (false), (qc9_), H', ⟨qc11_⟩, ⟨bq_ BK485.out⟩, ⟨hb_ HB.out⟩⟩
          ·
           replace c13 := Bool.eq_false_iff.mpr c13
           subst c13
           have H1 : (spec_RowOk.j2 kj3 x3_1 true a0_0 a0_1 l0_2) = some r := by rw [if_neg (show ¬ (false = true) by decide)] at H; exact H
           clear H
           have H := H1
           clear H1
           have H' := Aside0.mk H
           clear H
           try go_wp2
           have n0_ := Aside0.mk (blk_drew BK485.out)
           have n1_ := Aside0.mk (below_drew1 HB.out)
           clear BK485; clear HB
           have BK485 := n0_
           have HB := n1_
           clear n0_ n1_
           have p486 : 0 ≤ (x3_1 : Int) := of_decide_eq_true dt_
           have q486 : x3_1 < (l0_2.length : Int) := of_decide_eq_true dt_
           obtain ⟨ad486, e486, hx486_0, hx486_1, hx486_2, hx486_3, hx486_4⟩ := at_Item HR0_2.out x3_1 p486 q486
           have hw486_4 := hx486_4
           have hw486_3 := hx486_3
           have hw486_2 := hx486_2
           have hw486_1 := hx486_1
           have hw486_0 := hx486_0
           cases e486
           replace hx486_0 := hc_ HB hx486_0
           replace hx486_1 := hc_ HB hx486_1
           replace hx486_2 := hc_ HB hx486_2
           replace hx486_3 := hc_ HB hx486_3
           replace hx486_4 := hc_ HB hx486_4
           replace p486 := eq_true p486
           replace q486 := eq_true q486
           have p488 : 0 ≤ (x3_1 : Int) := of_decide_eq_true dt_
           have q488 : x3_1 < (l0_2.length : Int) := of_decide_eq_true dt_
           obtain ⟨ad488, e488, hx488_0, hx488_1, hx488_2, hx488_3, hx488_4⟩ := at_Item HR0_2.out x3_1 p488 q488
           have hw488_4 := hx488_4
           have hw488_3 := hx488_3
           have hw488_2 := hx488_2
           have hw488_1 := hx488_1
           have hw488_0 := hx488_0
           obtain rfl : ad486 = ad488 := (by injection e488)
           replace hx488_0 := hc_ HB hx488_0
           replace hx488_1 := hc_ HB hx488_1
           replace hx488_2 := hc_ HB hx488_2
           replace hx488_3 := hc_ HB hx488_3
           replace hx488_4 := hc_ HB hx488_4
           replace p488 := eq_true p488
           replace q488 := eq_true q488
           refine start_ (n := 42) (S := fun w' => w'.cell? ⟨gb485, 0, none⟩ = some (.int .i64 a0_0) ∧ w'.cell? ⟨gb485, 1, none⟩ = some (.int .i64 a0_1) ∧ w'.cell? ⟨gb485, 2, none⟩ = some (.slice (some ad486) l0_2.length c0_2) ∧ w'.cell? (ad486.add ((x3_1).toNat * 5)) = some (.int .i64 ((rd_Item l0_2 x3_1).f0)) ∧ w'.cell? ⟨(ad486.add ((x3_1).toNat * 5)).block, (ad486.add ((x3_1).toNat * 5)).off + 1, none⟩ = some (.string ((rd_Item l0_2 x3_1).f1)) ∧ w'.cell? ⟨(ad486.add ((x3_1).toNat * 5)).block, (ad486.add ((x3_1).toNat * 5)).off + 2, none⟩ = some (.string ((rd_Item l0_2 x3_1).f2)) ∧ w'.cell? ⟨(ad486.add ((x3_1).toNat * 5)).block, (ad486.add ((x3_1).toNat * 5)).off + 3, none⟩ = some (.int .i64 ((rd_Item l0_2 x3_1).f3)) ∧ w'.cell? ⟨(ad486.add ((x3_1).toNat * 5)).block, (ad486.add ((x3_1).toNat * 5)).off + 4, none⟩ = some (.int .i64 ((rd_Item l0_2 x3_1).f4)) ∧ w'.cell? (ad486.add ((x3_1).toNat * 5)) = some (.int .i64 ((rd_Item l0_2 x3_1).f0)) ∧ w'.cell? ⟨(ad486.add ((x3_1).toNat * 5)).block, (ad486.add ((x3_1).toNat * 5)).off + 1, none⟩ = some (.string ((rd_Item l0_2 x3_1).f1)) ∧ w'.cell? ⟨(ad486.add ((x3_1).toNat * 5)).block, (ad486.add ((x3_1).toNat * 5)).off + 2, none⟩ = some (.string ((rd_Item l0_2 x3_1).f2)) ∧ w'.cell? ⟨(ad486.add ((x3_1).toNat * 5)).block, (ad486.add ((x3_1).toNat * 5)).off + 3, none⟩ = some (.int .i64 ((rd_Item l0_2 x3_1).f3)) ∧ w'.cell? ⟨(ad486.add ((x3_1).toNat * 5)).block, (ad486.add ((x3_1).toNat * 5)).off + 4, none⟩ = some (.int .i64 ((rd_Item l0_2 x3_1).f4))) (ds := []) spec_RowOk.m0 (by kernel_rfl) rfl rfl ⟨bc_ BK485 0, bc_ BK485 1, bc_ BK485 2, (hd_ HB hw486_0), (hd_ HB hw486_1), (hd_ HB hw486_2), (hd_ HB hw486_3), (hd_ HB hw486_4), (hd_ HB hw488_0), (hd_ HB hw488_1), (hd_ HB hw488_2), (hd_ HB hw488_3), (hd_ HB hw488_4)⟩ (fun hHeld => ?_); refine with_tabW spec_RowOk.tab4 spec_RowOk.bits4 (fun HT_ HW_ => ?_)
           generalize wc.drew = w22 at BK485 HB hx486_0 hx486_1 hx486_2 hx486_3 hx486_4 hx488_0 hx488_1 hx488_2 hx488_3 hx488_4 hHeld ⊢
           refine pI_ 0 11 HT_ spec_RowOk.m1 rfl rfl ?_
           refine pI_ 2 13 HT_ spec_RowOk.m2 rfl rfl ?_
           refine tk_ 1 12 HT_ HW_ spec_RowOk.m3 rfl rfl hHeld ?_
           refine pI_ 3 14 HT_ spec_RowOk.m4 rfl rfl ?_
           refine tk_ 4 15 HT_ HW_ spec_RowOk.m5 rfl rfl hHeld ?_
           refine on_ 5 16 HT_ spec_RowOk.m6 rfl rfl (fun K hK => ?_)
           refine goes_ Try.func83 (by kernel_rfl) rfl #[.agg #[.int .i64 ((rd_Item l0_2 x3_1).f0), .string ((rd_Item l0_2 x3_1).f1), .string ((rd_Item l0_2 x3_1).f2), .int .i64 ((rd_Item l0_2 x3_1).f3), .int .i64 ((rd_Item l0_2 x3_1).f4)]] (by rfl) rfl rfl sm_ ?_
           with_reducible refine (spec_l3Item.calls kj3 ((rd_Item l0_2 x3_1).f0) ((rd_Item l0_2 x3_1).f1) ((rd_Item l0_2 x3_1).f2) ((rd_Item l0_2 x3_1).f3) ((rd_Item l0_2 x3_1).f4) true _ A10.out).mono ?_
           rintro e w23 ⟨rfl, hb⟩
           refine ⟨_, rfl, ?_⟩
           have n0_ := Aside0.mk (bb_ BK485.out hb)
           have n1_ := Aside0.mk (below_step (hb_ HB.out) hb)
           clear BK485; clear HB
           have BK485 := n0_
           have HB := n1_
           clear n0_ n1_
           (try clear hb)
           (try clear hb2)
           (try clear hk)
           (try clear hi)
           refine hK.out _ _ ⟨bc_ BK485 0, bc_ BK485 1, bc_ BK485 2, (hd_ HB hw486_0), (hd_ HB hw486_1), (hd_ HB hw486_2), (hd_ HB hw486_3), (hd_ HB hw486_4), (hd_ HB hw488_0), (hd_ HB hw488_1), (hd_ HB hw488_2), (hd_ HB hw488_3), (hd_ HB hw488_4)⟩ (fun hHeld => ?_)
           clear hK K
           refine nm_ ?_
           refine pI_ 6 17 HT_ spec_RowOk.m7 rfl rfl ?_
           refine pI_ 7 18 HT_ spec_RowOk.m8 rfl rfl ?_
           refine pI_ 8 19 HT_ spec_RowOk.m9 rfl rfl ?_
           refine pI_ 10 21 HT_ spec_RowOk.m10 rfl rfl ?_
           refine pI_ 14 25 HT_ spec_RowOk.m11 rfl rfl ?_
           refine pI_ 16 27 HT_ spec_RowOk.m12 rfl rfl ?_
           refine tk_ 9 20 HT_ HW_ spec_RowOk.m13 rfl rfl hHeld ?_
           refine pI_ 11 22 HT_ spec_RowOk.m14 rfl rfl ?_
           refine pI_ 12 23 HT_ spec_RowOk.m15 rfl rfl ?_
           refine tk_ 13 24 HT_ HW_ spec_RowOk.m16 rfl rfl hHeld ?_
           refine tk_ 15 26 HT_ HW_ spec_RowOk.m17 rfl rfl hHeld ?_
           refine tk_ 17 28 HT_ HW_ spec_RowOk.m18 rfl rfl hHeld ?_
           refine pI_ 18 29 HT_ spec_RowOk.m19 rfl rfl ?_
           refine on_ 19 30 HT_ spec_RowOk.m20 rfl rfl (fun K hK => ?_)
           refine goes_ Try.func58 (by kernel_rfl) rfl #[.int .i64 ((rd_Item l0_2 x3_1).f0), .int .i64 a0_0, .int .i64 (wrap64 (a0_1 - 1))] (by rfl) rfl rfl sm_ ?_
           with_reducible refine (spec_l1In.calls ((rd_Item l0_2 x3_1).f0) a0_0 (wrap64 (a0_1 - 1)) false _ A12.out).mono ?_
           rintro e w' ⟨rfl, ⟨nd, rfl⟩⟩
           refine ⟨_, rfl, ?_⟩
           refine hK.out _ _ ⟨bc_ BK485 0, bc_ BK485 1, bc_ BK485 2, (hd_ HB hw486_0), (hd_ HB hw486_1), (hd_ HB hw486_2), (hd_ HB hw486_3), (hd_ HB hw486_4), (hd_ HB hw488_0), (hd_ HB hw488_1), (hd_ HB hw488_2), (hd_ HB hw488_3), (hd_ HB hw488_4)⟩ (fun hHeld => ?_)
           clear hK K
           refine nm_ ?_
           refine pI_ 20 31 HT_ spec_RowOk.m21 rfl rfl ?_
           refine pI_ 21 32 HT_ spec_RowOk.m22 rfl rfl ?_
           refine pI_ 22 33 HT_ spec_RowOk.m23 rfl rfl ?_
           refine pU_ 23 34 HT_ spec_RowOk.m24 rfl rfl ?_
           refine pU_ 24 35 HT_ spec_RowOk.m25 rfl rfl ?_
           refine pU_ 25 36 HT_ spec_RowOk.m26 rfl rfl ?_
           refine pU_ 26 37 HT_ spec_RowOk.m27 rfl rfl ?_
           refine pU_ 27 38 HT_ spec_RowOk.m35 rfl rfl ?_
           refine pU_ 28 39 HT_ spec_RowOk.m36 rfl rfl ?_
           refine pU_ 29 40 HT_ spec_RowOk.m37 rfl rfl ?_
           refine pU_ 30 41 HT_ spec_RowOk.m38 rfl rfl ?_
           refine pU_ 31 42 HT_ spec_RowOk.m39 rfl rfl ?_
           refine pU_ 32 43 HT_ spec_RowOk.m40 rfl rfl ?_
           refine pU_ 33 44 HT_ spec_RowOk.m41 rfl rfl ?_
           refine pU_ 34 45 HT_ spec_RowOk.m42 rfl rfl ?_
           refine pU_ 35 46 HT_ spec_RowOk.m28 rfl rfl ?_
           refine pU_ 36 47 HT_ spec_RowOk.m29 rfl rfl ?_
           refine pU_ 37 48 HT_ spec_RowOk.m30 rfl rfl ?_
           refine pU_ 38 49 HT_ spec_RowOk.m31 rfl rfl ?_
           refine pU_ 39 50 HT_ spec_RowOk.m32 rfl rfl ?_
           refine pU_ 40 51 HT_ spec_RowOk.m33 rfl rfl ?_
           refine pI_ 41 52 HT_ spec_RowOk.m34 rfl rfl ?_
           refine done_ (done_of HT_.out (by kernel_rfl)) ?_
           try go_wp2
           go_meet
           case rel => exact ⟨_, (true), (qc9_), H', ⟨qc11_⟩, ⟨bq_ BK485.out⟩, ⟨hb_ HB.out⟩⟩
         ·
          replace c11 := Bool.eq_false_iff.mpr c11
          subst c11
          have H1 : (spec_RowOk.j2 kj3 x3_1 true a0_0 a0_1 l0_2) = some r := by rw [if_neg (show ¬ (false = true) by decide)] at H; exact H
          clear H
          have H := H1
          clear H1
          have H' := Aside0.mk H
          clear H
          try go_wp2
          have n0_ := Aside0.mk (blk_drew BK485.out)
          have n1_ := Aside0.mk (below_drew1 HB.out)
          clear BK485; clear HB
          have BK485 := n0_
          have HB := n1_
          clear n0_ n1_
          have p486 : 0 ≤ (x3_1 : Int) := of_decide_eq_true dt_
          have q486 : x3_1 < (l0_2.length : Int) := of_decide_eq_true dt_
          obtain ⟨ad486, e486, hx486_0, hx486_1, hx486_2, hx486_3, hx486_4⟩ := at_Item HR0_2.out x3_1 p486 q486
          have hw486_4 := hx486_4
          have hw486_3 := hx486_3
          have hw486_2 := hx486_2
          have hw486_1 := hx486_1
          have hw486_0 := hx486_0
          cases e486
          replace hx486_0 := hc_ HB hx486_0
          replace hx486_1 := hc_ HB hx486_1
          replace hx486_2 := hc_ HB hx486_2
          replace hx486_3 := hc_ HB hx486_3
          replace hx486_4 := hc_ HB hx486_4
          replace p486 := eq_true p486
          replace q486 := eq_true q486
          refine start_ (n := 42) (S := fun w' => w'.cell? ⟨gb485, 0, none⟩ = some (.int .i64 a0_0) ∧ w'.cell? ⟨gb485, 1, none⟩ = some (.int .i64 a0_1) ∧ w'.cell? ⟨gb485, 2, none⟩ = some (.slice (some ad486) l0_2.length c0_2) ∧ w'.cell? (ad486.add ((x3_1).toNat * 5)) = some (.int .i64 ((rd_Item l0_2 x3_1).f0)) ∧ w'.cell? ⟨(ad486.add ((x3_1).toNat * 5)).block, (ad486.add ((x3_1).toNat * 5)).off + 1, none⟩ = some (.string ((rd_Item l0_2 x3_1).f1)) ∧ w'.cell? ⟨(ad486.add ((x3_1).toNat * 5)).block, (ad486.add ((x3_1).toNat * 5)).off + 2, none⟩ = some (.string ((rd_Item l0_2 x3_1).f2)) ∧ w'.cell? ⟨(ad486.add ((x3_1).toNat * 5)).block, (ad486.add ((x3_1).toNat * 5)).off + 3, none⟩ = some (.int .i64 ((rd_Item l0_2 x3_1).f3)) ∧ w'.cell? ⟨(ad486.add ((x3_1).toNat * 5)).block, (ad486.add ((x3_1).toNat * 5)).off + 4, none⟩ = some (.int .i64 ((rd_Item l0_2 x3_1).f4))) (ds := []) spec_RowOk.m0 (by kernel_rfl) rfl rfl ⟨bc_ BK485 0, bc_ BK485 1, bc_ BK485 2, (hd_ HB hw486_0), (hd_ HB hw486_1), (hd_ HB hw486_2), (hd_ HB hw486_3), (hd_ HB hw486_4)⟩ (fun hHeld => ?_); refine with_tabW spec_RowOk.tab4 spec_RowOk.bits4 (fun HT_ HW_ => ?_)
          generalize wc.drew = w24 at BK485 HB hx486_0 hx486_1 hx486_2 hx486_3 hx486_4 hHeld ⊢
          refine pI_ 0 11 HT_ spec_RowOk.m1 rfl rfl ?_
          refine pI_ 2 13 HT_ spec_RowOk.m2 rfl rfl ?_
          refine tk_ 1 12 HT_ HW_ spec_RowOk.m3 rfl rfl hHeld ?_
          refine pI_ 3 14 HT_ spec_RowOk.m4 rfl rfl ?_
          refine tk_ 4 15 HT_ HW_ spec_RowOk.m5 rfl rfl hHeld ?_
          refine on_ 5 16 HT_ spec_RowOk.m6 rfl rfl (fun K hK => ?_)
          refine goes_ Try.func83 (by kernel_rfl) rfl #[.agg #[.int .i64 ((rd_Item l0_2 x3_1).f0), .string ((rd_Item l0_2 x3_1).f1), .string ((rd_Item l0_2 x3_1).f2), .int .i64 ((rd_Item l0_2 x3_1).f3), .int .i64 ((rd_Item l0_2 x3_1).f4)]] (by rfl) rfl rfl sm_ ?_
          with_reducible refine (spec_l3Item.calls kj3 ((rd_Item l0_2 x3_1).f0) ((rd_Item l0_2 x3_1).f1) ((rd_Item l0_2 x3_1).f2) ((rd_Item l0_2 x3_1).f3) ((rd_Item l0_2 x3_1).f4) false _ A10.out).mono ?_
          rintro e w25 ⟨rfl, hb⟩
          refine ⟨_, rfl, ?_⟩
          have n0_ := Aside0.mk (bb_ BK485.out hb)
          have n1_ := Aside0.mk (below_step (hb_ HB.out) hb)
          clear BK485; clear HB
          have BK485 := n0_
          have HB := n1_
          clear n0_ n1_
          (try clear hb)
          (try clear hb2)
          (try clear hk)
          (try clear hi)
          refine hK.out _ _ ⟨bc_ BK485 0, bc_ BK485 1, bc_ BK485 2, (hd_ HB hw486_0), (hd_ HB hw486_1), (hd_ HB hw486_2), (hd_ HB hw486_3), (hd_ HB hw486_4)⟩ (fun hHeld => ?_)
          clear hK K
          refine nm_ ?_
          refine pI_ 6 17 HT_ spec_RowOk.m7 rfl rfl ?_
          refine pI_ 7 18 HT_ spec_RowOk.m8 rfl rfl ?_
          refine pU_ 8 19 HT_ spec_RowOk.m9 rfl rfl ?_
          refine pU_ 9 20 HT_ #[true, true, true, true, true, true, true, true, true, true, false, false, false, false, false, false, false, false, false, false, false, false, false, false, false, false, false, false, false, false, false, false, false, false, false, false, false, false, false, false, false, false] rfl rfl ?_
          refine pU_ 10 21 HT_ #[true, true, true, true, true, true, true, true, true, true, true, false, false, false, false, false, false, false, false, false, false, false, false, false, false, false, false, false, false, false, false, false, false, false, false, false, false, false, false, false, false, false] rfl rfl ?_
          refine pU_ 11 22 HT_ #[true, true, true, true, true, true, true, true, true, true, true, true, false, false, false, false, false, false, false, false, false, false, false, false, false, false, false, false, false, false, false, false, false, false, false, false, false, false, false, false, false, false] rfl rfl ?_
          refine pU_ 12 23 HT_ #[true, true, true, true, true, true, true, true, true, true, true, true, true, false, false, false, false, false, false, false, false, false, false, false, false, false, false, false, false, false, false, false, false, false, false, false, false, false, false, false, false, false] rfl rfl ?_
          refine pU_ 13 24 HT_ #[true, true, true, true, true, true, true, true, true, true, true, true, true, true, false, false, false, false, false, false, false, false, false, false, false, false, false, false, false, false, false, false, false, false, false, false, false, false, false, false, false, false] rfl rfl ?_
          refine pU_ 14 25 HT_ #[true, true, true, true, true, true, true, true, true, true, true, true, true, true, true, false, false, false, false, false, false, false, false, false, false, false, false, false, false, false, false, false, false, false, false, false, false, false, false, false, false, false] rfl rfl ?_
          refine pU_ 15 26 HT_ #[true, true, true, true, true, true, true, true, true, true, true, true, true, true, true, true, false, false, false, false, false, false, false, false, false, false, false, false, false, false, false, false, false, false, false, false, false, false, false, false, false, false] rfl rfl ?_
          refine pU_ 16 27 HT_ spec_RowOk.m17 rfl rfl ?_
          refine pU_ 17 28 HT_ spec_RowOk.m18 rfl rfl ?_
          refine pU_ 18 29 HT_ spec_RowOk.m19 rfl rfl ?_
          refine pU_ 19 30 HT_ spec_RowOk.m20 rfl rfl ?_
          refine pU_ 20 31 HT_ spec_RowOk.m21 rfl rfl ?_
          refine pI_ 21 32 HT_ spec_RowOk.m22 rfl rfl ?_
          refine pI_ 22 33 HT_ spec_RowOk.m23 rfl rfl ?_
          refine pU_ 23 34 HT_ spec_RowOk.m24 rfl rfl ?_
          refine pU_ 24 35 HT_ spec_RowOk.m25 rfl rfl ?_
          refine pU_ 25 36 HT_ spec_RowOk.m26 rfl rfl ?_
          refine pU_ 26 37 HT_ spec_RowOk.m27 rfl rfl ?_
          refine pU_ 27 38 HT_ spec_RowOk.m35 rfl rfl ?_
          refine pU_ 28 39 HT_ spec_RowOk.m36 rfl rfl ?_
          refine pU_ 29 40 HT_ spec_RowOk.m37 rfl rfl ?_
          refine pU_ 30 41 HT_ spec_RowOk.m38 rfl rfl ?_
          refine pU_ 31 42 HT_ spec_RowOk.m39 rfl rfl ?_
          refine pU_ 32 43 HT_ spec_RowOk.m40 rfl rfl ?_
          refine pU_ 33 44 HT_ spec_RowOk.m41 rfl rfl ?_
          refine pU_ 34 45 HT_ spec_RowOk.m42 rfl rfl ?_
          refine pU_ 35 46 HT_ spec_RowOk.m28 rfl rfl ?_
          refine pU_ 36 47 HT_ spec_RowOk.m29 rfl rfl ?_
          refine pU_ 37 48 HT_ spec_RowOk.m30 rfl rfl ?_
          refine pU_ 38 49 HT_ spec_RowOk.m31 rfl rfl ?_
          refine pU_ 39 50 HT_ spec_RowOk.m32 rfl rfl ?_
          refine pU_ 40 51 HT_ spec_RowOk.m33 rfl rfl ?_
          refine pI_ 41 52 HT_ spec_RowOk.m34 rfl rfl ?_
          refine done_ (done_of HT_.out (by kernel_rfl)) ?_
          try go_wp2
          go_meet
          case rel => exact ⟨_, (true), (qc9_), H', ⟨qc11_⟩, ⟨bq_ BK485.out⟩, ⟨hb_ HB.out⟩⟩
        ·
         rw [if_neg c9] at H
         exact absurd H (by simp)
       ·
        rw [if_neg c8] at H
        exact absurd H (by simp)
      case rest =>
       clear HC7
       (try clear c1); (try clear p2); (try clear p4); (try clear q4); (try clear hx4); (try clear c5); (try clear p6); (try clear c8); (try clear c9); (try clear c11); (try clear hx486_0); (try clear hx486_1); (try clear hx486_2); (try clear hx486_3); (try clear hx486_4); (try clear hx488_0); (try clear hx488_1); (try clear hx488_2); (try clear hx488_3); (try clear hx488_4); (try clear p486); (try clear p488); (try clear q486); (try clear q488)
       obtain ⟨kq, x52_6, rfl, HA, HJ6, BK485, HB⟩ := hcut
       cases kq with
       | zero => exact absurd HA.out (by simp [spec_RowOk.j2])
       | succ kj6 =>
        have H := HA.out
        clear HA
        simp only [spec_RowOk.j2] at H
        by_cases c26 : x52_6 = true
        ·
         subst c26
         have H1 : (some false) = some r := by rw [if_pos rfl] at H; exact H
         clear H
         have H := H1
         clear H1
         obtain rfl := Option.some.inj H
         go_wp2
         go_ret
         exact ⟨er_, hb_ HB.out⟩
        ·
         replace c26 := Bool.eq_false_iff.mpr c26
         subst c26
         have H1 : (spec_RowOk.l0 kj6 (wrap64 (x3_1 + 1)) a0_0 a0_1 l0_2) = some r := by rw [if_neg (show ¬ (false = true) by decide)] at H; exact H
         clear H
         have H := H1
         clear H1
         have H' := Aside0.mk H
         clear H
         go_wp2
         go_roundg kj6
         case measure => have := HK1.out; have := HJ3.out; have := HJ6.out; omega
         case rel => exact ⟨(wrap64 (x3_1 + 1)), (qc9_), H', ⟨by have := HK1.out; have := HJ3.out; have := HJ6.out; omega⟩, ⟨bq_ BK485.out⟩, ⟨hb_ HB.out⟩⟩
 case rest =>
  clear HC2
  (try clear c1); (try clear c2); (try clear p2); (try clear p4); (try clear q4); (try clear hx4); (try clear c5); (try clear p6); (try clear c8); (try clear c9); (try clear c11); (try clear c26); (try clear hx486_0); (try clear hx486_1); (try clear hx486_2); (try clear hx486_3); (try clear hx486_4); (try clear hx488_0); (try clear hx488_1); (try clear hx488_2); (try clear hx488_3); (try clear hx488_4); (try clear p2); (try clear p4); (try clear p486); (try clear p488); (try clear p6); (try clear q4); (try clear q486); (try clear q488)
  obtain ⟨kq, HA, HJ1, BK485, HB⟩ := hcut
  cases kq with
  | zero => exact absurd HA.out (by simp [spec_RowOk.j3])
  | succ kj1 =>
   have H := HA.out
   clear HA
   simp only [spec_RowOk.j3] at H
   replace H := Option.bind_eq_some_iff.mp H
   obtain ⟨t492, A270, H⟩ := H
   replace H : (if t492 = true then (if a0_1 ≤ 100000 then (some (decide ((l0_2.length : Int) ≤ 80))) else (some false)) else (some false)) = some r := H
   have A27 := Aside0.mk A270
   clear A270
   by_cases c28 : t492 = true
   ·
    subst c28
    have H1 : (if a0_1 ≤ 100000 then (some (decide ((l0_2.length : Int) ≤ 80))) else (some false)) = some r := by rw [if_pos rfl] at H; exact H
    clear H
    have H := H1
    clear H1
    by_cases c29 : a0_1 ≤ 100000
    ·
     rw [if_pos c29] at H
     have c29b0 : decide (a0_1 ≤ 100000) = true := decide_eq_true c29
     clear c29
     obtain rfl := Option.some.inj H
     have hcz30_0 : wc.cell? ⟨gb485, 0, none⟩ = some (.int .i64 a0_0) := bc_ BK485 0
     have hcz30_1 : wc.cell? ⟨gb485, 1, none⟩ = some (.int .i64 a0_1) := bc_ BK485 1
     have hcz30_2 : wc.cell? ⟨gb485, 2, none⟩ = some (.slice A0_2 l0_2.length c0_2) := bc_ BK485 2
     have hfz30_0 := blk_frozen BK485.out 0
     have hfz30_1 := blk_frozen BK485.out 1
     have hfz30_2 := blk_frozen BK485.out 2
     go_wp2_with (first | ((with_reducible refine gate_callee (f := 58) rfl ?_); refine goesL_ (some 57) rfl rfl Try.func58 (by kernel_rfl) rfl #[.int .i64 a0_0, .int .i64 0, .int .i64 a0_1] rfl sm_ ?_; (with_reducible refine (spec_l1In.calls a0_0 0 a0_1 true _ A27.out).mono ?_); rintro e w' ⟨rfl, ⟨nd, rfl⟩⟩; refine ⟨_, rfl, ?_⟩))
     go_ret
     exact ⟨er_, hb_ HB.out⟩
    ·
     rw [if_neg c29] at H
     have c29b0 : decide (a0_1 ≤ 100000) = false := decide_eq_false c29
     clear c29
     obtain rfl := Option.some.inj H
     have hcz31_0 : wc.cell? ⟨gb485, 0, none⟩ = some (.int .i64 a0_0) := bc_ BK485 0
     have hcz31_1 : wc.cell? ⟨gb485, 1, none⟩ = some (.int .i64 a0_1) := bc_ BK485 1
     have hcz31_2 : wc.cell? ⟨gb485, 2, none⟩ = some (.slice A0_2 l0_2.length c0_2) := bc_ BK485 2
     have hfz31_0 := blk_frozen BK485.out 0
     have hfz31_1 := blk_frozen BK485.out 1
     have hfz31_2 := blk_frozen BK485.out 2
     go_wp2_with (first | ((with_reducible refine gate_callee (f := 58) rfl ?_); refine goesL_ (some 57) rfl rfl Try.func58 (by kernel_rfl) rfl #[.int .i64 a0_0, .int .i64 0, .int .i64 a0_1] rfl sm_ ?_; (with_reducible refine (spec_l1In.calls a0_0 0 a0_1 true _ A27.out).mono ?_); rintro e w' ⟨rfl, ⟨nd, rfl⟩⟩; refine ⟨_, rfl, ?_⟩))
     go_ret
     exact ⟨er_, hb_ HB.out⟩
   ·
    replace c28 := Bool.eq_false_iff.mpr c28
    subst c28
    have H1 : (some false) = some r := by rw [if_neg (show ¬ (false = true) by decide)] at H; exact H
    clear H
    have H := H1
    clear H1
    obtain rfl := Option.some.inj H
    have hcz32_0 : wc.cell? ⟨gb485, 0, none⟩ = some (.int .i64 a0_0) := bc_ BK485 0
    have hcz32_1 : wc.cell? ⟨gb485, 1, none⟩ = some (.int .i64 a0_1) := bc_ BK485 1
    have hcz32_2 : wc.cell? ⟨gb485, 2, none⟩ = some (.slice A0_2 l0_2.length c0_2) := bc_ BK485 2
    have hfz32_0 := blk_frozen BK485.out 0
    have hfz32_1 := blk_frozen BK485.out 1
    have hfz32_2 := blk_frozen BK485.out 2
    go_wp2_with (first | ((with_reducible refine gate_callee (f := 58) rfl ?_); refine goesL_ (some 57) rfl rfl Try.func58 (by kernel_rfl) rfl #[.int .i64 a0_0, .int .i64 0, .int .i64 a0_1] rfl sm_ ?_; (with_reducible refine (spec_l1In.calls a0_0 0 a0_1 false _ A27.out).mono ?_); rintro e w' ⟨rfl, ⟨nd, rfl⟩⟩; refine ⟨_, rfl, ?_⟩))
    go_ret
    exact ⟨er_, hb_ HB.out⟩
end Go.Proofs.Ythkepjgolaichaa.Q
