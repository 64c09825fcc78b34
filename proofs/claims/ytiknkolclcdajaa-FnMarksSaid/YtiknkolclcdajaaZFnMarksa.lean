/- Made by a program of ours out of the print of the loaded functions: for each of some functions a plain function, and the walk that shows that a call comes to what it says. No condition but those of each theorem. -/
import Derived.Test.YtiknkolclcdajaaZFnMarks0
namespace Go.Proofs.Ytiknkolclcdajaa.Q
open Go.RowKit Go.Proofs.YtiknkolclcdajaaW.PrintWords Go.Proofs.YtiknkolclcdajaaW.PrintLast Go.Proofs.YtiknkolclcdajaaW.PrintMore
attribute [local go_sem] max2_int min2_int max_two min_two max_three min_three max_four min_four   -- for this text's walks alone
set_option linter.unusedVariables false
set_option linter.unusedSimpArgs false

/-! ### laws_big: function 12 -/
def laws_big.f (l0 : List Int) : Option (Bool) := some (decide ((l0.length : Int) > 1048576))
set_option maxHeartbeats 8000000 in
set_option maxRecDepth 100000 in
theorem laws_big.calls (A0 : Option Addr) (c0 : Nat) (l0 : List Int) (r : Bool) (w : World) (hr0 : Kd.C (Kd.int .u8) w A0 l0.length l0) (hc0 : l0.length ≤ c0) (h : laws_big.f l0 = some r) :
 Calls Try.prog 12 #[.slice A0 l0.length c0] w fun e w' => e = .returned (.bool r) ∧ Drawn0 w w' := by
 have HR0 := Aside0.mk hr0
 have HC0 := Aside0.mk hc0
 clear hr0 hc0
 have H : (some (decide ((l0.length : Int) > 1048576))) = some r := h
 clear h
 obtain rfl := Option.some.inj H
 go_enter Try.func12, Try.ntmps12
 go_wp2
 go_ret
 exact ⟨by first | rfl | (simp; done) | (simp [*]; done), by repeat (first | exact Drawn0.refl _ | apply Drawn0.step)⟩

/-- A state of type 178 at block g of W; what its slices lead to came in by w0. -/
def IsS_l1Cur (w0 W : World) (g : Nat) (f0 : List Int) (f1 : Int) (f2 : Int) : Prop := ∃ A0 c0, W.heap[g]? = some (.cells #[.slice A0 f0.length c0, .int .i64 f1, .int .i64 f2] 178 (0, 0)) ∧ w0.heap.size ≤ g ∧ Kd.C (Kd.int .u8) w0 A0 f0.length f0
theorem IsS_l1Cur.grown {w0 W : World} {g : Nat} {f0 : List Int} {f1 : Int} {f2 : Int} {W1 : World} {row : Option Nat} (h : IsS_l1Cur w0 W g f0 f1 f2) (hw : W.grownBy W1 row) (hne : some g ≠ row) : IsS_l1Cur w0 W1 g f0 f1 f2 := by
 obtain ⟨A0, c0, hb, hg, hr0⟩ := h
 exact ⟨A0, c0, blk_grown hb hw hne, hg, hr0⟩
theorem IsS_l1Cur.own_neN {w0 W : World} {g : Nat} {f0 : List Int} {f1 : Int} {f2 : Int} {α : Type} {d : Kd α} {e : Nat} {base : Nat} {ok : Nat → Prop} {v : Value} {xs : List α} (h : IsS_l1Cur w0 W g f0 f1 f2) (ho : Kd.N d e W base ok v xs) (ht : e ≠ 178) : some g ≠ v.ownBlock := by
 obtain ⟨A0, c0, hb, hg, hr0⟩ := h
 exact Kd.N_ne ho hb ht
theorem IsS_l1Cur.fresh {w0 W : World} {g : Nat} {f0 : List Int} {f1 : Int} {f2 : Int} (h : IsS_l1Cur w0 W g f0 f1 f2) : ∀ k, W.heap.size ≤ k → k ≠ g := by
 obtain ⟨A0, c0, hb, hg, hr0⟩ := h
 exact Kd.freshB hb
theorem IsS_l1Cur.kept {w0 W : World} {g : Nat} {f0 : List Int} {f1 : Int} {f2 : Int} {W1 : World} {S : Nat → Prop} (h : IsS_l1Cur w0 W g f0 f1 f2) (hk : Kept W W1 S) (hne : ¬ S g) : IsS_l1Cur w0 W1 g f0 f1 f2 := by
 obtain ⟨A0, c0, hb, hg, hr0⟩ := h
 exact ⟨A0, c0, blk_kept hb hk hne, hg, hr0⟩
theorem IsS_l1Cur.below {w0 W : World} {g : Nat} {f0 : List Int} {f1 : Int} {f2 : Int} {W1 : World} (h : IsS_l1Cur w0 W g f0 f1 f2) (hw : Below W.heap.size W W1) : IsS_l1Cur w0 W1 g f0 f1 f2 := h.grown (grown_of_below hw none) (by simp)
theorem IsS_l1Cur.alloc {w0 W : World} {g : Nat} {f0 : List Int} {f1 : Int} {f2 : Int} (h : IsS_l1Cur w0 W g f0 f1 f2) (o : Obj) : IsS_l1Cur w0 (W.alloc o) g f0 f1 f2 := h.below (below_alloc (Below.refl _ _) o)
theorem IsS_l1Cur.drewN {w0 W : World} {g : Nat} {f0 : List Int} {f1 : Int} {f2 : Int} (h : IsS_l1Cur w0 W g f0 f1 f2) (m : Nat) : IsS_l1Cur w0 (W.drewN m) g f0 f1 f2 := h
theorem IsS_l1Cur.drew {w0 W : World} {g : Nat} {f0 : List Int} {f1 : Int} {f2 : Int} (h : IsS_l1Cur w0 W g f0 f1 f2) : IsS_l1Cur w0 W.drew g f0 f1 f2 := h
theorem IsS_l1Cur.at_ {w0 W : World} {g : Nat} {f0 : List Int} {f1 : Int} {f2 : Int} {w' : World} {m : Nat} (hq : W.drewN m = w') (h : IsS_l1Cur w0 W g f0 f1 f2) : IsS_l1Cur w0 w' g f0 f1 f2 := by subst hq; exact IsS_l1Cur.drewN h m
theorem IsS_l1Cur.apart {w0 W : World} {g : Nat} {f0 : List Int} {f1 : Int} {f2 : Int} {α : Type} {d : Kd α} {e : Nat} {base : Nat} {ok : Nat → Prop} {v : Value} {xs : List α} (h : IsS_l1Cur w0 W g f0 f1 f2) (ho : d.R e W base ok v xs) (ht : ∀ q, q ∈ e :: d.E → q ≠ 178) : d.R e W base (fun k => ok k ∧ k ≠ g) v xs := by
 obtain ⟨A0, c0, hb, hg, hr0⟩ := h
 exact Kd.R_types ho hb ht
theorem IsS_l1Cur.own_ne {w0 W : World} {g : Nat} {f0 : List Int} {f1 : Int} {f2 : Int} {α : Type} {d : Kd α} {e : Nat} {base : Nat} {ok : Nat → Prop} {v : Value} {xs : List α} (h : IsS_l1Cur w0 W g f0 f1 f2) (ho : d.R e W base ok v xs) (ht : e ≠ 178) : some g ≠ v.ownBlock := by
 obtain ⟨A0, c0, hb, hg, hr0⟩ := h
 exact Kd.R_ne ho hb ht
theorem IsS_l1Cur.apartQ {w0 W : World} {g : Nat} {f0 : List Int} {f1 : Int} {f2 : Int} {α : Type} {d : Kd α} {e : Nat} {base : Nat} {ok : Nat → Prop} {v : Value} {xs : List α} (h : IsS_l1Cur w0 W g f0 f1 f2) (ho : d.Q e W base ok v xs) (ht : ∀ q, q ∈ e :: d.E → q ≠ 178) : d.Q e W base (fun k => ok k ∧ k ≠ g) v xs := by
 obtain ⟨A0, c0, hb, hg, hr0⟩ := h
 exact Kd.Q_types ho hb ht
theorem IsS_l1Cur.own_neQ {w0 W : World} {g : Nat} {f0 : List Int} {f1 : Int} {f2 : Int} {α : Type} {d : Kd α} {e : Nat} {base : Nat} {ok : Nat → Prop} {v : Value} {xs : List α} (h : IsS_l1Cur w0 W g f0 f1 f2) (ho : d.Q e W base ok v xs) (ht : e ≠ 178) : some g ≠ v.ownBlock := by
 obtain ⟨A0, c0, hb, hg, hr0⟩ := h
 exact Kd.Q_ne ho hb ht
theorem IsS_l1Cur.apartS {w0 W : World} {g : Nat} {f0 : List Int} {f1 : Int} {f2 : Int} {α : Type} {d : Kd α} {e : Nat} {base : Nat} {ok : Nat → Prop} {v : Value} {xs : List α} (h : IsS_l1Cur w0 W g f0 f1 f2) (ho : d.S e W base ok v xs) (ht : ∀ q, q ∈ e :: d.E → q ≠ 178) : d.S e W base (fun k => ok k ∧ k ≠ g) v xs := by
 obtain ⟨A0, c0, hb, hg, hr0⟩ := h
 exact Kd.S_types ho hb ht
theorem IsS_l1Cur.own_neS {w0 W : World} {g : Nat} {f0 : List Int} {f1 : Int} {f2 : Int} {α : Type} {d : Kd α} {e : Nat} {base : Nat} {ok : Nat → Prop} {v : Value} {xs : List α} (h : IsS_l1Cur w0 W g f0 f1 f2) (ho : d.S e W base ok v xs) (ht : e ≠ 178) : some g ≠ v.ownBlock := by
 obtain ⟨A0, c0, hb, hg, hr0⟩ := h
 exact Kd.S_ne ho hb ht
theorem IsS_l1Cur.lt {w0 W : World} {g : Nat} {f0 : List Int} {f1 : Int} {f2 : Int} (h : IsS_l1Cur w0 W g f0 f1 f2) : g < W.heap.size := by
 obtain ⟨A0, c0, hb, hg, hr0⟩ := h
 exact blk_lt hb
theorem IsS_l1Cur.ge {w0 W : World} {g : Nat} {f0 : List Int} {f1 : Int} {f2 : Int} (h : IsS_l1Cur w0 W g f0 f1 f2) : w0.heap.size ≤ g := by
 obtain ⟨A0, c0, hb, hg, hr0⟩ := h
 exact hg
theorem IsS_l1Cur.ne_blk {w0 W : World} {g : Nat} {f0 : List Int} {f1 : Int} {f2 : Int} {a : Nat} {cs : Array Value} {t : TypeId} {fr : Nat × Nat} (h : IsS_l1Cur w0 W g f0 f1 f2) (hb2 : W.heap[a]? = some (.cells cs t fr)) (ht : t ≠ 178) : g ≠ a := by
 obtain ⟨A0, c0, hb, hg, hr0⟩ := h
 rintro rfl
 rw [hb] at hb2
 injection hb2 with hb2
 injection hb2 with _ ht2
 exact ht ht2.symm
theorem IsS_l1Cur.far {w0 W : World} {g : Nat} {f0 : List Int} {f1 : Int} {f2 : Int} {p : Addr} (h : IsS_l1Cur w0 W g f0 f1 f2) (hne : g ≠ p.block) (u : Value) : IsS_l1Cur w0 (W.setCell p u) g f0 f1 f2 := by
 obtain ⟨A0, c0, hb, hg, hr0⟩ := h
 exact ⟨A0, c0, blk_far hb hne u, hg, hr0⟩
theorem cellS178_0 {W : World} {g : Nat} {A0 : Option Addr} {c0 : Nat} {f0 : List Int} {f1 : Int} {f2 : Int} (h : W.heap[g]? = some (.cells #[.slice A0 f0.length c0, .int .i64 f1, .int .i64 f2] 178 (0, 0))) : W.cell? ⟨g, 0, none⟩ = some (.slice A0 f0.length c0) := (blk_cell h 0).trans rfl
theorem cellS178_1 {W : World} {g : Nat} {A0 : Option Addr} {c0 : Nat} {f0 : List Int} {f1 : Int} {f2 : Int} (h : W.heap[g]? = some (.cells #[.slice A0 f0.length c0, .int .i64 f1, .int .i64 f2] 178 (0, 0))) : W.cell? ⟨g, 1, none⟩ = some (.int .i64 f1) := (blk_cell h 1).trans rfl
theorem IsS_l1Cur.set_1 {w0 W : World} {g : Nat} {f0 : List Int} {f1 : Int} {f2 : Int} (h : IsS_l1Cur w0 W g f0 f1 f2) (x : Int) : IsS_l1Cur w0 (W.setCell ⟨g, 1, none⟩ (.int .i64 x)) g f0 x f2 := by
 obtain ⟨A0, c0, hb, hg, hr0⟩ := h
 exact ⟨A0, c0, by simpa using blk_set hb 1 (.int .i64 x), hg, hr0⟩
theorem cellS178_2 {W : World} {g : Nat} {A0 : Option Addr} {c0 : Nat} {f0 : List Int} {f1 : Int} {f2 : Int} (h : W.heap[g]? = some (.cells #[.slice A0 f0.length c0, .int .i64 f1, .int .i64 f2] 178 (0, 0))) : W.cell? ⟨g, 2, none⟩ = some (.int .i64 f2) := (blk_cell h 2).trans rfl
theorem IsS_l1Cur.set_2 {w0 W : World} {g : Nat} {f0 : List Int} {f1 : Int} {f2 : Int} (h : IsS_l1Cur w0 W g f0 f1 f2) (x : Int) : IsS_l1Cur w0 (W.setCell ⟨g, 2, none⟩ (.int .i64 x)) g f0 f1 x := by
 obtain ⟨A0, c0, hb, hg, hr0⟩ := h
 exact ⟨A0, c0, by simpa using blk_set hb 2 (.int .i64 x), hg, hr0⟩
theorem IsS_l1Cur.new (w0 W : World) (A0 : Option Addr) (c0 : Nat) (f0 : List Int) (f1 : Int) (f2 : Int) (hB : Below w0.heap.size w0 W) (hr0 : Kd.C (Kd.int .u8) w0 A0 f0.length f0) : IsS_l1Cur w0 (W.alloc (.cells #[.slice A0 f0.length c0, .int .i64 f1, .int .i64 f2] 178)) W.heap.size f0 f1 f2 := ⟨A0, c0, by simpa using heap_alloc_new W _, hB.size, hr0⟩

theorem is_l1Cur_ {w0 W W' : World} {g : Nat} {f0 f0' : List Int} {f1 f2 f1' f2' : Int} (x : IsS_l1Cur w0 W g f0 f1 f2) (h : IsS_l1Cur w0 W g f0 f1 f2 → IsS_l1Cur w0 W' g f0' f1' f2' := by intro h_; repeat (first | (with_reducible first | exact h_ | apply IsS_l1Cur.alloc | apply IsS_l1Cur.drewN | apply IsS_l1Cur.drew | apply IsS_l1Cur.set_1 | apply IsS_l1Cur.set_2 | refine IsS_l1Cur.far ?_ (Aside0.out (by assumption)) _) | exact h_)) : IsS_l1Cur w0 W' g f0' f1' f2' := h x
theorem hk_ {w W W' : World} {g : Nat} {row row' : Option Nat} (x : KeepBut w W g row) (h : KeepBut w W g row → KeepBut w W' g row' := by intro h_; repeat (first | (with_reducible first | exact h_ | apply KeepBut.set_ | apply keep_drewN | apply keep_drew | apply keep_alloc | refine keep_far ?_ (Aside0.out (by assumption)) _) | exact h_)) : KeepBut w W' g row' := h x
theorem hi_ {B : Nat} {w W W' : World} (x : Below B w W) (h : Below B w W → Below B w W' := by intro h_; repeat (first | (with_reducible first | exact h_ | apply below_alloc | apply pw_below_drewN | apply below_drew1 | refine below_set ?_ (Aside0.out (by assumption)) | refine below_set ?_ (IsS_l1Cur.ge (Aside0.out (by assumption)))) | exact h_)) : Below B w W' := h x
theorem nl_ {g b : Nat} {o : Obj} {W w : World} (x : W.heap[g]? = some o) (hg : b = w.heap.size) (h : W.heap[g]? = some o → w.heap[g]? = some o := by intro h_; (with_reducible repeat (first | refine blk_drewN ?_ _ | refine blk_drew ?_ | refine blk_alloc ?_ _)); exact h_) : g ≠ b := by rw [hg]; exact Nat.ne_of_lt (blk_lt (h x))
theorem ng_ {g b : Nat} {o : Obj} {W w : World} (x : W.heap[g]? = some o) (hg : b = w.heap.size) (h : W.heap[g]? = some o → w.heap[g]? = some o := by intro h_; (with_reducible repeat (first | refine blk_drewN ?_ _ | refine blk_drew ?_ | refine blk_alloc ?_ _)); exact h_) : b ≠ g := by rw [hg]; exact Nat.ne_of_gt (blk_lt (h x))
theorem er_ {q : Prop} (h : q := by first | rfl | (simp [errW_none, errW_some] <;> rfl) | (simp [*, errW_none, errW_some] <;> rfl)) : q := h
/-! ### spec_l1New: function 76 -/
def spec_l1New.l0 : Nat → List Int → Int → Int → Option (List Int × Int × Int)
 | 0, _, _, _ => none
 | k + 1, x0, x3, x4 => if x4 < (x0.length : Int) then (if x4 < 4000 then (if 0 ≤ x4 then (spec_l1New.l0 k x0 (Go.bits .and .i64 (wrap64 ((wrap64 ((wrap64 (x3 * 131)) + (wrap64 (rd x0 x4)))) + 7)) 1073741823) (wrap64 (x4 + 1))) else (none)) else (some (x0, 0, x3))) else (some (x0, 0, x3))
def spec_l1New.f (k : Nat) (l0 : List Int) : Option (List Int × Int × Int) := spec_l1New.l0 k l0 (wrap64 (24548 + (l0.length : Int))) 0
theorem spec_l1New.mono_l : ∀ k, (∀ y0 y1 y2, LeO (spec_l1New.l0 k y0 y1 y2) (spec_l1New.l0 (k + 1) y0 y1 y2))
 | 0 => fun _ _ _ r h => by simp [spec_l1New.l0] at h
 | k + 1 => by
  have ih0 := spec_l1New.mono_l k
  ·
   intro y0 y1 y2
   unfold spec_l1New.l0
   repeat' first
   | (with_reducible exact ih0 _ _ _)
   | (with_reducible exact LeO.refl _)
   | (with_reducible exact LeO.none _)
   | (with_reducible refine LeO.ite ?_ ?_)
   | (with_reducible refine LeO.bind ?_ (fun _ => ?_))
   | exact ih0 _ _ _
   | exact LeO.none _
   | refine LeO.ite ?_ ?_
   | refine LeO.bind ?_ (fun _ => ?_)
theorem spec_l1New.mono : ∀ a0 k, LeO (spec_l1New.f k a0) (spec_l1New.f (k + 1) a0) := by
 intro a0 k
 have ih0 := spec_l1New.mono_l k
 unfold spec_l1New.f
 repeat' first
  | (with_reducible exact ih0 _ _ _)
  | (with_reducible exact LeO.refl _)
  | (with_reducible exact LeO.none _)
  | (with_reducible refine LeO.ite ?_ ?_)
  | (with_reducible refine LeO.bind ?_ (fun _ => ?_))
  | exact ih0 _ _ _
  | exact LeO.none _
  | refine LeO.ite ?_ ?_
  | refine LeO.bind ?_ (fun _ => ?_)
set_option maxHeartbeats 8000000 in
set_option maxRecDepth 100000 in
theorem spec_l1New.calls (k : Nat) (A0 : Option Addr) (c0 : Nat) (l0 : List Int) (r1 : List Int) (r2 : Int) (r3 : Int) (w0 w : World) (hB : Below w0.heap.size w0 w) (hr0 : Kd.C (Kd.int .u8) w0 A0 l0.length l0) (hc0 : l0.length ≤ c0) (h : spec_l1New.f k l0 = some (r1, r2, r3)) :
 Calls Try.prog 76 #[.slice A0 l0.length c0] w fun e w' => ∃ g_ : Nat, e = .returned (.pointer (some ⟨g_, 0, none⟩)) ∧ IsS_l1Cur w0 w' g_ r1 r2 r3 ∧ Below w0.heap.size w0 w' ∧ Below w.heap.size w w' := by
 have hu178 := Try.underlying178
 have HR0 := Aside0.mk hr0
 have HC0 := Aside0.mk hc0
 clear hr0 hc0
 have HBW := Aside0.mk (Below.refl w.heap.size w)
 have HW0 := Aside0.mk hB.size
 have HB := Aside0.mk hB
 clear hB
 have H : (spec_l1New.l0 k l0 (wrap64 (24548 + (l0.length : Int))) 0) = some (r1, r2, r3) := h
 clear h
 have H' := Aside0.mk H
 clear H
 go_enter Try.func76, Try.ntmps76
 go_wp2
 go_loopg [3, 4] k (fun kq v3 v4 w' => ∃ (x3_1 : Int) (x4_1 : Int), v3 = .int .i64 x3_1 ∧ v4 = .int .i64 x4_1 ∧ Aside0 (spec_l1New.l0 kq l0 x3_1 x4_1 = some (r1, r2, r3)) ∧ Aside0 (kq ≤ k) ∧ Aside0 (Below w.heap.size w w') ∧ Aside0 (Below w0.heap.size w0 w'))
 case atStart => exact ⟨(wrap64 (24548 + (l0.length : Int))), (0), (by first | rfl | (simp; done) | (simp [*]; done)), (by first | rfl | (simp; done) | (simp [*]; done)), H', ⟨Nat.le_refl _⟩, ⟨by repeat (first | (with_reducible first | exact HBW.out | apply below_alloc | apply pw_below_drewN | apply below_drew1) | exact HBW.out)⟩, ⟨hb_ HB.out⟩⟩
 case round =>
  clear H'
  obtain ⟨x3_1, x4_1, rfl, rfl, HA, HK1, HBW, HB⟩ := hrel
  cases gk with
  | zero => exact absurd HA.out (by simp [spec_l1New.l0])
  | succ k1 =>
   have H := HA.out
   clear HA
   simp only [spec_l1New.l0] at H
   by_cases c2 : x4_1 < (l0.length : Int)
   ·
    rw [if_pos c2] at H
    have c2b0 : decide (x4_1 < (l0.length : Int)) = true := decide_eq_true c2
    clear c2
    by_cases c3 : x4_1 < 4000
    ·
     rw [if_pos c3] at H
     have c3b0 : decide (x4_1 < 4000) = true := decide_eq_true c3
     clear c3
     by_cases c4 : 0 ≤ x4_1
     ·
      rw [if_pos c4] at H
      have c4b0 : decide (0 ≤ x4_1) = true := decide_eq_true c4
      clear c4
      have H' := Aside0.mk H
      clear H
      have p101 : 0 ≤ (x4_1 : Int) := of_decide_eq_true (by first | (with_reducible assumption) | assumption)
      have q101 : x4_1 < (l0.length : Int) := of_decide_eq_true (by first | (with_reducible assumption) | assumption)
      obtain ⟨ad101, e101, hx101_0⟩ := Kd.at_int HR0.out x4_1 p101 q101
      cases e101
      replace hx101_0 := pw_cell_below HB.out hx101_0
      replace p101 := eq_true p101
      replace q101 := eq_true q101
      go_wp2
      go_roundg k1
      case measure => have := HK1.out; omega
      case rel => exact ⟨(Go.bits .and .i64 (wrap64 ((wrap64 ((wrap64 (x3_1 * 131)) + (wrap64 (rd l0 x4_1)))) + 7)) 1073741823), (wrap64 (x4_1 + 1)), (by first | rfl | (simp; done) | (simp [*]; done)), (by first | rfl | (simp; done) | (simp [*]; done)), H', ⟨by have := HK1.out; omega⟩, ⟨by repeat (first | (with_reducible first | exact HBW.out | apply below_alloc | apply pw_below_drewN | apply below_drew1) | exact HBW.out)⟩, ⟨hb_ HB.out⟩⟩
     ·
      rw [if_neg c4] at H
      exact absurd H (by simp)
    ·
     rw [if_neg c3] at H
     have c3b0 : decide (x4_1 < 4000) = false := decide_eq_false c3
     clear c3
     simp only [Option.some.injEq, Prod.mk.injEq] at H
     obtain ⟨rfl, rfl, rfl⟩ := H
     go_wp2_with (first | ((with_reducible refine gate_dst (N := 31) rfl ?_); refine box_event ?hg (N := 31) ?hd (cs := #[.slice A0 l0.length c0, .int .i64 0, .int .i64 x3_1]) (t := 178) ?hr ?_; (case hd => rfl); (case hg => rfl); (case hr => first | (go_simp; done) | (go_simp; rfl)); intro gb102 hg w5 hbox hb; have n0_ := Aside0.mk (below_step HBW.out hb); have n1_ := Aside0.mk (below_step (hb_ HB.out) hb); have n2_ := Aside0.mk (hbox); have n3_ := Aside0.mk ((by rw [hg]; exact (below_size (by repeat (first | (with_reducible first | exact HBW.out | apply below_alloc | apply pw_below_drewN | apply below_drew1) | exact HBW.out))) : w.heap.size ≤ gb102)); have n4_ := Aside0.mk ((Nat.le_trans HW0.out (by rw [hg]; exact (below_size (by repeat (first | (with_reducible first | exact HBW.out | apply below_alloc | apply pw_below_drewN | apply below_drew1) | exact HBW.out))) : w.heap.size ≤ gb102) : w0.heap.size ≤ gb102)); clear HBW; clear HB; have HBW := n0_; have HB := n1_; have BK102 := n2_; have GW102 := n3_; have GE102 := n4_; clear n0_ n1_ n2_ n3_ n4_; clear hb hbox hg))
     go_ret
     exact ⟨_, rfl, (show IsS_l1Cur w0 _ gb102 l0 0 x3_1 from ⟨_, _, by (with_reducible repeat (first | refine blk_drewN ?_ _ | refine blk_drew ?_ | refine blk_alloc ?_ _)); exact BK102.out, GE102.out, HR0.out⟩), by repeat (first | (with_reducible first | exact HB.out | apply below_alloc | apply pw_below_drewN | apply below_drew1 | refine below_set ?_ GE102.out) | exact HB.out), by repeat (first | (with_reducible first | exact HBW.out | apply below_alloc | apply pw_below_drewN | apply below_drew1 | refine below_set ?_ GW102.out) | exact HBW.out)⟩
   ·
    rw [if_neg c2] at H
    have c2b0 : decide (x4_1 < (l0.length : Int)) = false := decide_eq_false c2
    clear c2
    simp only [Option.some.injEq, Prod.mk.injEq] at H
    obtain ⟨rfl, rfl, rfl⟩ := H
    go_wp2_with (first | ((with_reducible refine gate_dst (N := 31) rfl ?_); refine box_event ?hg (N := 31) ?hd (cs := #[.slice A0 l0.length c0, .int .i64 0, .int .i64 x3_1]) (t := 178) ?hr ?_; (case hd => rfl); (case hg => rfl); (case hr => first | (go_simp; done) | (go_simp; rfl)); intro gb103 hg w6 hbox hb; have n0_ := Aside0.mk (below_step HBW.out hb); have n1_ := Aside0.mk (below_step (hb_ HB.out) hb); have n2_ := Aside0.mk (hbox); have n3_ := Aside0.mk ((by rw [hg]; exact (below_size (by repeat (first | (with_reducible first | exact HBW.out | apply below_alloc | apply pw_below_drewN | apply below_drew1) | exact HBW.out))) : w.heap.size ≤ gb103)); have n4_ := Aside0.mk ((Nat.le_trans HW0.out (by rw [hg]; exact (below_size (by repeat (first | (with_reducible first | exact HBW.out | apply below_alloc | apply pw_below_drewN | apply below_drew1) | exact HBW.out))) : w.heap.size ≤ gb103) : w0.heap.size ≤ gb103)); clear HBW; clear HB; have HBW := n0_; have HB := n1_; have BK103 := n2_; have GW103 := n3_; have GE103 := n4_; clear n0_ n1_ n2_ n3_ n4_; clear hb hbox hg))
    go_ret
    exact ⟨_, rfl, (show IsS_l1Cur w0 _ gb103 l0 0 x3_1 from ⟨_, _, by (with_reducible repeat (first | refine blk_drewN ?_ _ | refine blk_drew ?_ | refine blk_alloc ?_ _)); exact BK103.out, GE103.out, HR0.out⟩), by repeat (first | (with_reducible first | exact HB.out | apply below_alloc | apply pw_below_drewN | apply below_drew1 | refine below_set ?_ GE103.out) | exact HB.out), by repeat (first | (with_reducible first | exact HBW.out | apply below_alloc | apply pw_below_drewN | apply below_drew1 | refine below_set ?_ GW103.out) | exact HBW.out)⟩

/-! ### spec_l1Byte: function 146 -/
def spec_l1Byte.f (s0_0 : List Int) (s0_1 : Int) (s0_2 : Int) : Option (Int × Int × Int) := if s0_1 < (s0_0.length : Int) then (if 0 ≤ s0_1 then (some (Go.bits .and .i64 (wrap64 ((Go.bits .and .i64 (Go.bits .xor .i64 ((wrap64 ((wrap64 (s0_2 * 6364136223846793005)) + 1442695040888963407)) / 8589934592) ((wrap64 ((wrap64 (s0_2 * 6364136223846793005)) + 1442695040888963407)) / 35184372088832)) 255) + (wrap64 (rd s0_0 s0_1)))) 255, wrap64 (s0_1 + 1), wrap64 ((wrap64 (s0_2 * 6364136223846793005)) + 1442695040888963407))) else (none)) else (some (Go.bits .and .i64 (Go.bits .xor .i64 ((wrap64 ((wrap64 (s0_2 * 6364136223846793005)) + 1442695040888963407)) / 8589934592) ((wrap64 ((wrap64 (s0_2 * 6364136223846793005)) + 1442695040888963407)) / 35184372088832)) 255, s0_1, wrap64 ((wrap64 (s0_2 * 6364136223846793005)) + 1442695040888963407)))
set_option maxHeartbeats 8000000 in
set_option maxRecDepth 100000 in
theorem spec_l1Byte.calls (g : Nat) (s0_0 : List Int) (s0_1 : Int) (s0_2 : Int) (r1 : Int) (r2 : Int) (r3 : Int) (w0 w : World) (hI : IsS_l1Cur w0 w g s0_0 s0_1 s0_2) (hB : Below w0.heap.size w0 w) (h : spec_l1Byte.f s0_0 s0_1 s0_2 = some (r1, r2, r3)) :
 Calls Try.prog 146 #[.pointer (some ⟨g, 0, none⟩)] w fun e w' => e = .returned (.int .i64 r1) ∧ IsS_l1Cur w0 w' g s0_0 r2 r3 ∧ Below w0.heap.size w0 w' ∧ KeepBut w w' g none := by
 have HI0 := Aside0.mk hI
 have HK := Aside0.mk (KeepBut.refl w g none)
 have HL := Aside0.mk hB.size
 clear hI
 have HW0 := Aside0.mk hB.size
 have HB := Aside0.mk hB
 clear hB
 have H : (if s0_1 < (s0_0.length : Int) then (if 0 ≤ s0_1 then (some (Go.bits .and .i64 (wrap64 ((Go.bits .and .i64 (Go.bits .xor .i64 ((wrap64 ((wrap64 (s0_2 * 6364136223846793005)) + 1442695040888963407)) / 8589934592) ((wrap64 ((wrap64 (s0_2 * 6364136223846793005)) + 1442695040888963407)) / 35184372088832)) 255) + (wrap64 (rd s0_0 s0_1)))) 255, wrap64 (s0_1 + 1), wrap64 ((wrap64 (s0_2 * 6364136223846793005)) + 1442695040888963407))) else (none)) else (some (Go.bits .and .i64 (Go.bits .xor .i64 ((wrap64 ((wrap64 (s0_2 * 6364136223846793005)) + 1442695040888963407)) / 8589934592) ((wrap64 ((wrap64 (s0_2 * 6364136223846793005)) + 1442695040888963407)) / 35184372088832)) 255, s0_1, wrap64 ((wrap64 (s0_2 * 6364136223846793005)) + 1442695040888963407)))) = some (r1, r2, r3) := h
 clear h
 by_cases c2 : s0_1 < (s0_0.length : Int)
 ·
  rw [if_pos c2] at H
  have c2b0 : decide (s0_1 < (s0_0.length : Int)) = true := decide_eq_true c2
  clear c2
  by_cases c3 : 0 ≤ s0_1
  ·
   rw [if_pos c3] at H
   have c3b0 : decide (0 ≤ s0_1) = true := decide_eq_true c3
   clear c3
   simp only [Option.some.injEq, Prod.mk.injEq] at H
   obtain ⟨rfl, rfl, rfl⟩ := H
   obtain ⟨ASz4_0, cSz4_0, HGz4, hgz4, HSz4_0⟩ := HI0.out
   have hcz4_0 := cellS178_0 HGz4
   have hcz4_1 := cellS178_1 HGz4
   have hcz4_2 := cellS178_2 HGz4
   have hfz4_1 := blk_frozen HGz4 1
   have hfz4_2 := blk_frozen HGz4 2
   clear HGz4 hgz4
   have p104 : 0 ≤ (s0_1 : Int) := of_decide_eq_true (by first | (with_reducible assumption) | assumption)
   have q104 : s0_1 < (s0_0.length : Int) := of_decide_eq_true (by first | (with_reducible assumption) | assumption)
   obtain ⟨ad104, e104, hx104_0⟩ := Kd.at_int HSz4_0 s0_1 p104 q104
   cases e104
   have hn104_0 : ad104.block ≠ g := Nat.ne_of_lt (Nat.lt_of_lt_of_le (by have := World.block_lt_of_cell? _ _ hx104_0; first | rwa [add_block] at this | exact this) (IsS_l1Cur.ge HI0.out))
   replace hx104_0 := pw_cell_below HB.out hx104_0
   replace hx104_0 := (cell_far (p := ⟨g, 2, none⟩) (by first | (rw [add_block]; exact hn104_0) | (show (Addr.add _ _).block ≠ _; rw [add_block]; exact hn104_0) | exact hn104_0) (.int .i64 (wrap64 ((wrap64 (s0_2 * 6364136223846793005)) + 1442695040888963407)))).trans hx104_0
   (try have hy104_0 := fun (n_ : Nat) => (show (((w.drewN n_).setCell ⟨g, 2, none⟩ (.int .i64 (wrap64 ((wrap64 (s0_2 * 6364136223846793005)) + 1442695040888963407))))).cell? _ = some _ from hx104_0))
   clear hn104_0
   replace p104 := eq_true p104
   replace q104 := eq_true q104
   go_enter Try.func146, Try.ntmps146
   go_wp2
   repeat (go_quiet (fail); try go_wp2)
   go_ret
   exact ⟨by first | rfl | (simp [errW_none, errW_some] <;> rfl) | (simp [*, errW_none, errW_some] <;> rfl), by repeat (first | (with_reducible first | exact HI0.out | apply IsS_l1Cur.alloc | apply IsS_l1Cur.drewN | apply IsS_l1Cur.drew | apply IsS_l1Cur.set_1 | apply IsS_l1Cur.set_2) | exact HI0.out), by repeat (first | (with_reducible first | exact HB.out | apply below_alloc | apply pw_below_drewN | apply below_drew1 | refine below_set ?_ (IsS_l1Cur.ge HI0.out)) | exact HB.out), by repeat (first | (with_reducible first | exact HK.out | apply KeepBut.set_ | apply keep_drewN | apply keep_drew | apply keep_alloc) | exact HK.out)⟩
  ·
   rw [if_neg c3] at H
   exact absurd H (by simp)
 ·
  rw [if_neg c2] at H
  have c2b0 : decide (s0_1 < (s0_0.length : Int)) = false := decide_eq_false c2
  clear c2
  simp only [Option.some.injEq, Prod.mk.injEq] at H
  obtain ⟨rfl, rfl, rfl⟩ := H
  obtain ⟨ASz5_0, cSz5_0, HGz5, hgz5, HSz5_0⟩ := HI0.out
  have hcz5_0 := cellS178_0 HGz5
  have hcz5_1 := cellS178_1 HGz5
  have hcz5_2 := cellS178_2 HGz5
  have hfz5_1 := blk_frozen HGz5 1
  have hfz5_2 := blk_frozen HGz5 2
  clear HGz5 hgz5
  go_enter Try.func146, Try.ntmps146
  go_wp2
  repeat (go_quiet (fail); try go_wp2)
  go_ret
  exact ⟨by first | rfl | (simp [errW_none, errW_some] <;> rfl) | (simp [*, errW_none, errW_some] <;> rfl), by repeat (first | (with_reducible first | exact HI0.out | apply IsS_l1Cur.alloc | apply IsS_l1Cur.drewN | apply IsS_l1Cur.drew | apply IsS_l1Cur.set_1 | apply IsS_l1Cur.set_2) | exact HI0.out), by repeat (first | (with_reducible first | exact HB.out | apply below_alloc | apply pw_below_drewN | apply below_drew1 | refine below_set ?_ (IsS_l1Cur.ge HI0.out)) | exact HB.out), by repeat (first | (with_reducible first | exact HK.out | apply KeepBut.set_ | apply keep_drewN | apply keep_drew | apply keep_alloc) | exact HK.out)⟩

/-! ### spec_l1Below: function 78 -/
def spec_l1Below.f (s0_0 : List Int) (s0_1 : Int) (s0_2 : Int) (a1 : Int) : Option (Int × Int × Int) := if a1 ≤ 0 then (some (0, s0_1, s0_2)) else (if a1 ≤ 256 then ((spec_l1Byte.f s0_0 s0_1 s0_2).bind fun bt105 => (if a1 = 0 then (none) else (some (Int.tmod bt105.1 a1, bt105.2.1, bt105.2.2)))) else ((spec_l1Byte.f s0_0 s0_1 s0_2).bind fun bt108 => ((spec_l1Byte.f s0_0 bt108.2.1 bt108.2.2).bind fun bt111 => ((spec_l1Byte.f s0_0 bt111.2.1 bt111.2.2).bind fun bt114 => ((spec_l1Byte.f s0_0 bt114.2.1 bt114.2.2).bind fun bt117 => (if a1 = 0 then (none) else (some (Int.tmod (wrap64 ((wrap64 ((wrap64 ((wrap64 (bt108.1 * 16777216)) + (wrap64 (bt111.1 * 65536)))) + (wrap64 (bt114.1 * 256)))) + bt117.1)) a1, bt117.2.1, bt117.2.2))))))))
set_option maxHeartbeats 8000000 in
set_option maxRecDepth 100000 in
theorem spec_l1Below.calls (g : Nat) (s0_0 : List Int) (s0_1 : Int) (s0_2 : Int) (a1 : Int) (r1 : Int) (r2 : Int) (r3 : Int) (w0 w : World) (hI : IsS_l1Cur w0 w g s0_0 s0_1 s0_2) (hB : Below w0.heap.size w0 w) (h : spec_l1Below.f s0_0 s0_1 s0_2 a1 = some (r1, r2, r3)) :
 Calls Try.prog 78 #[.pointer (some ⟨g, 0, none⟩), .int .i64 a1] w fun e w' => e = .returned (.int .i64 r1) ∧ IsS_l1Cur w0 w' g s0_0 r2 r3 ∧ Below w0.heap.size w0 w' ∧ KeepBut w w' g none := by
 have HI0 := Aside0.mk hI
 have HK := Aside0.mk (KeepBut.refl w g none)
 have HL := Aside0.mk hB.size
 clear hI
 have HW0 := Aside0.mk hB.size
 have HB := Aside0.mk hB
 clear hB
 have H : (if a1 ≤ 0 then (some (0, s0_1, s0_2)) else (if a1 ≤ 256 then ((spec_l1Byte.f s0_0 s0_1 s0_2).bind fun bt105 => (if a1 = 0 then (none) else (some (Int.tmod bt105.1 a1, bt105.2.1, bt105.2.2)))) else ((spec_l1Byte.f s0_0 s0_1 s0_2).bind fun bt108 => ((spec_l1Byte.f s0_0 bt108.2.1 bt108.2.2).bind fun bt111 => ((spec_l1Byte.f s0_0 bt111.2.1 bt111.2.2).bind fun bt114 => ((spec_l1Byte.f s0_0 bt114.2.1 bt114.2.2).bind fun bt117 => (if a1 = 0 then (none) else (some (Int.tmod (wrap64 ((wrap64 ((wrap64 ((wrap64 (bt108.1 * 16777216)) + (wrap64 (bt111.1 * 65536)))) + (wrap64 (bt114.1 * 256)))) + bt117.1)) a1, bt117.2.1, bt117.2.2))))))))) = some (r1, r2, r3) := h
 clear h
 by_cases c3 : a1 ≤ 0
 ·
  rw [if_pos c3] at H
  have c3b0 : decide (a1 ≤ 0) = true := decide_eq_true c3
  clear c3
  simp only [Option.some.injEq, Prod.mk.injEq] at H
  obtain ⟨rfl, rfl, rfl⟩ := H
  go_enter Try.func78, Try.ntmps78
  go_wp2
  go_ret
  exact ⟨by first | rfl | (simp [errW_none, errW_some] <;> rfl) | (simp [*, errW_none, errW_some] <;> rfl), by repeat (first | (with_reducible first | exact HI0.out | apply IsS_l1Cur.alloc | apply IsS_l1Cur.drewN | apply IsS_l1Cur.drew | apply IsS_l1Cur.set_1 | apply IsS_l1Cur.set_2) | exact HI0.out), by repeat (first | (with_reducible first | exact HB.out | apply below_alloc | apply pw_below_drewN | apply below_drew1 | refine below_set ?_ (IsS_l1Cur.ge HI0.out)) | exact HB.out), by repeat (first | (with_reducible first | exact HK.out | apply KeepBut.set_ | apply keep_drewN | apply keep_drew | apply keep_alloc) | exact HK.out)⟩
 ·
  rw [if_neg c3] at H
  have c3b0 : decide (a1 ≤ 0) = false := decide_eq_false c3
  clear c3
  by_cases c4 : a1 ≤ 256
  ·
   rw [if_pos c4] at H
   have c4b0 : decide (a1 ≤ 256) = true := decide_eq_true c4
   clear c4
   replace H := Option.bind_eq_some_iff.mp H
   obtain ⟨⟨t105, t106, t107⟩, A50, H⟩ := H
   replace H : (if a1 = 0 then (none) else (some (Int.tmod t105 a1, t106, t107))) = some (r1, r2, r3) := H
   have A5 := Aside0.mk A50
   clear A50
   by_cases c6 : a1 = 0
   ·
    rw [if_pos c6] at H
    exact absurd H (by simp)
   ·
    rw [if_neg c6] at H
    have c6b0 : (a1 == 0) = false := beq_eq_false_iff_ne.mpr c6
    have c6b1 : (a1 != 0) = true := bne_iff_ne.mpr c6
    simp only [Option.some.injEq, Prod.mk.injEq] at H
    obtain ⟨rfl, rfl, rfl⟩ := H
    go_enter Try.func78, Try.ntmps78
    go_wp2_with (first | ((with_reducible refine gate_callee (f := 146) rfl ?_); refine goesL_ (some 14) rfl rfl Try.func146 (by kernel_rfl) rfl #[.pointer (some ⟨g, 0, none⟩)] rfl sm_ ?_; (with_reducible refine (spec_l1Byte.calls g s0_0 s0_1 s0_2 t105 t106 t107 w0 _ ?side1 ?side2 A5.out).mono ?_); (case side1 => repeat (first | (with_reducible first | exact HI0.out | apply IsS_l1Cur.alloc | apply IsS_l1Cur.drewN | apply IsS_l1Cur.drew | apply IsS_l1Cur.set_1 | apply IsS_l1Cur.set_2) | exact HI0.out)); (case side2 => repeat (first | (with_reducible first | exact HB.out | apply below_alloc | apply pw_below_drewN | apply below_drew1 | refine below_set ?_ (IsS_l1Cur.ge HI0.out)) | exact HB.out)); rintro e w7 ⟨rfl, hi, hb, hk⟩; refine ⟨_, rfl, ?_⟩; have n0_ := Aside0.mk (KeepBut.trans (by repeat (first | (with_reducible first | exact HK.out | apply KeepBut.set_ | apply keep_drewN | apply keep_drew | apply keep_alloc) | exact HK.out)) hk (.inl rfl)); have n1_ := Aside0.mk (hb); have n2_ := Aside0.mk (hi); clear HK; clear HB; clear HI0; have HK := n0_; have HB := n1_; have HI0 := n2_; clear n0_ n1_ n2_; (try clear hb); (try clear hb2); (try clear hk); (try clear hi)))
    go_ret
    exact ⟨by first | rfl | (simp [errW_none, errW_some] <;> rfl) | (simp [*, errW_none, errW_some] <;> rfl), by repeat (first | (with_reducible first | exact HI0.out | apply IsS_l1Cur.alloc | apply IsS_l1Cur.drewN | apply IsS_l1Cur.drew | apply IsS_l1Cur.set_1 | apply IsS_l1Cur.set_2) | exact HI0.out), by repeat (first | (with_reducible first | exact HB.out | apply below_alloc | apply pw_below_drewN | apply below_drew1 | refine below_set ?_ (IsS_l1Cur.ge HI0.out)) | exact HB.out), by repeat (first | (with_reducible first | exact HK.out | apply KeepBut.set_ | apply keep_drewN | apply keep_drew | apply keep_alloc) | exact HK.out)⟩
  ·
   rw [if_neg c4] at H
   have c4b0 : decide (a1 ≤ 256) = false := decide_eq_false c4
   clear c4
   replace H := Option.bind_eq_some_iff.mp H
   obtain ⟨⟨t108, t109, t110⟩, A80, H⟩ := H
   replace H : ((spec_l1Byte.f s0_0 t109 t110).bind fun bt111 => ((spec_l1Byte.f s0_0 bt111.2.1 bt111.2.2).bind fun bt114 => ((spec_l1Byte.f s0_0 bt114.2.1 bt114.2.2).bind fun bt117 => (if a1 = 0 then (none) else (some (Int.tmod (wrap64 ((wrap64 ((wrap64 ((wrap64 (t108 * 16777216)) + (wrap64 (bt111.1 * 65536)))) + (wrap64 (bt114.1 * 256)))) + bt117.1)) a1, bt117.2.1, bt117.2.2)))))) = some (r1, r2, r3) := H
   have A8 := Aside0.mk A80
   clear A80
   replace H := Option.bind_eq_some_iff.mp H
   obtain ⟨⟨t111, t112, t113⟩, A90, H⟩ := H
   replace H : ((spec_l1Byte.f s0_0 t112 t113).bind fun bt114 => ((spec_l1Byte.f s0_0 bt114.2.1 bt114.2.2).bind fun bt117 => (if a1 = 0 then (none) else (some (Int.tmod (wrap64 ((wrap64 ((wrap64 ((wrap64 (t108 * 16777216)) + (wrap64 (t111 * 65536)))) + (wrap64 (bt114.1 * 256)))) + bt117.1)) a1, bt117.2.1, bt117.2.2))))) = some (r1, r2, r3) := H
   have A9 := Aside0.mk A90
   clear A90
   replace H := Option.bind_eq_some_iff.mp H
   obtain ⟨⟨t114, t115, t116⟩, A100, H⟩ := H
   replace H : ((spec_l1Byte.f s0_0 t115 t116).bind fun bt117 => (if a1 = 0 then (none) else (some (Int.tmod (wrap64 ((wrap64 ((wrap64 ((wrap64 (t108 * 16777216)) + (wrap64 (t111 * 65536)))) + (wrap64 (t114 * 256)))) + bt117.1)) a1, bt117.2.1, bt117.2.2)))) = some (r1, r2, r3) := H
   have A10 := Aside0.mk A100
   clear A100
   replace H := Option.bind_eq_some_iff.mp H
   obtain ⟨⟨t117, t118, t119⟩, A110, H⟩ := H
   replace H : (if a1 = 0 then (none) else (some (Int.tmod (wrap64 ((wrap64 ((wrap64 ((wrap64 (t108 * 16777216)) + (wrap64 (t111 * 65536)))) + (wrap64 (t114 * 256)))) + t117)) a1, t118, t119))) = some (r1, r2, r3) := H
   have A11 := Aside0.mk A110
   clear A110
   by_cases c12 : a1 = 0
   ·
    rw [if_pos c12] at H
    exact absurd H (by simp)
   ·
    rw [if_neg c12] at H
    have c12b0 : (a1 == 0) = false := beq_eq_false_iff_ne.mpr c12
    have c12b1 : (a1 != 0) = true := bne_iff_ne.mpr c12
    simp only [Option.some.injEq, Prod.mk.injEq] at H
    obtain ⟨rfl, rfl, rfl⟩ := H
    go_enter Try.func78, Try.ntmps78
    go_wp2_with (first | ((with_reducible refine gate_callee (f := 146) rfl ?_); refine goesL_ (some 18) rfl rfl Try.func146 (by kernel_rfl) rfl #[.pointer (some ⟨g, 0, none⟩)] rfl sm_ ?_; (with_reducible refine (spec_l1Byte.calls g s0_0 s0_1 s0_2 t108 t109 t110 w0 _ ?side1 ?side2 A8.out).mono ?_); (case side1 => repeat (first | (with_reducible first | exact HI0.out | apply IsS_l1Cur.alloc | apply IsS_l1Cur.drewN | apply IsS_l1Cur.drew | apply IsS_l1Cur.set_1 | apply IsS_l1Cur.set_2) | exact HI0.out)); (case side2 => repeat (first | (with_reducible first | exact HB.out | apply below_alloc | apply pw_below_drewN | apply below_drew1 | refine below_set ?_ (IsS_l1Cur.ge HI0.out)) | exact HB.out)); rintro e w13 ⟨rfl, hi, hb, hk⟩; refine ⟨_, rfl, ?_⟩; have n0_ := Aside0.mk (KeepBut.trans (by repeat (first | (with_reducible first | exact HK.out | apply KeepBut.set_ | apply keep_drewN | apply keep_drew | apply keep_alloc) | exact HK.out)) hk (.inl rfl)); have n1_ := Aside0.mk (hb); have n2_ := Aside0.mk (hi); clear HK; clear HB; clear HI0; have HK := n0_; have HB := n1_; have HI0 := n2_; clear n0_ n1_ n2_; (try clear hb); (try clear hb2); (try clear hk); (try clear hi)) | ((with_reducible refine gate_callee (f := 146) rfl ?_); refine goesL_ (some 20) rfl rfl Try.func146 (by kernel_rfl) rfl #[.pointer (some ⟨g, 0, none⟩)] rfl sm_ ?_; (with_reducible refine (spec_l1Byte.calls g s0_0 t109 t110 t111 t112 t113 w0 _ ?side1 ?side2 A9.out).mono ?_); (case side1 => repeat (first | (with_reducible first | exact HI0.out | apply IsS_l1Cur.alloc | apply IsS_l1Cur.drewN | apply IsS_l1Cur.drew | apply IsS_l1Cur.set_1 | apply IsS_l1Cur.set_2) | exact HI0.out)); (case side2 => repeat (first | (with_reducible first | exact HB.out | apply below_alloc | apply pw_below_drewN | apply below_drew1 | refine below_set ?_ (IsS_l1Cur.ge HI0.out)) | exact HB.out)); rintro e w14 ⟨rfl, hi, hb, hk⟩; refine ⟨_, rfl, ?_⟩; have n0_ := Aside0.mk (KeepBut.trans (by repeat (first | (with_reducible first | exact HK.out | apply KeepBut.set_ | apply keep_drewN | apply keep_drew | apply keep_alloc) | exact HK.out)) hk (.inl rfl)); have n1_ := Aside0.mk (hb); have n2_ := Aside0.mk (hi); clear HK; clear HB; clear HI0; have HK := n0_; have HB := n1_; have HI0 := n2_; clear n0_ n1_ n2_; (try clear hb); (try clear hb2); (try clear hk); (try clear hi)) | ((with_reducible refine gate_callee (f := 146) rfl ?_); refine goesL_ (some 22) rfl rfl Try.func146 (by kernel_rfl) rfl #[.pointer (some ⟨g, 0, none⟩)] rfl sm_ ?_; (with_reducible refine (spec_l1Byte.calls g s0_0 t112 t113 t114 t115 t116 w0 _ ?side1 ?side2 A10.out).mono ?_); (case side1 => repeat (first | (with_reducible first | exact HI0.out | apply IsS_l1Cur.alloc | apply IsS_l1Cur.drewN | apply IsS_l1Cur.drew | apply IsS_l1Cur.set_1 | apply IsS_l1Cur.set_2) | exact HI0.out)); (case side2 => repeat (first | (with_reducible first | exact HB.out | apply below_alloc | apply pw_below_drewN | apply below_drew1 | refine below_set ?_ (IsS_l1Cur.ge HI0.out)) | exact HB.out)); rintro e w15 ⟨rfl, hi, hb, hk⟩; refine ⟨_, rfl, ?_⟩; have n0_ := Aside0.mk (KeepBut.trans (by repeat (first | (with_reducible first | exact HK.out | apply KeepBut.set_ | apply keep_drewN | apply keep_drew | apply keep_alloc) | exact HK.out)) hk (.inl rfl)); have n1_ := Aside0.mk (hb); have n2_ := Aside0.mk (hi); clear HK; clear HB; clear HI0; have HK := n0_; have HB := n1_; have HI0 := n2_; clear n0_ n1_ n2_; (try clear hb); (try clear hb2); (try clear hk); (try clear hi)) | ((with_reducible refine gate_callee (f := 146) rfl ?_); refine goesL_ (some 24) rfl rfl Try.func146 (by kernel_rfl) rfl #[.pointer (some ⟨g, 0, none⟩)] rfl sm_ ?_; (with_reducible refine (spec_l1Byte.calls g s0_0 t115 t116 t117 t118 t119 w0 _ ?side1 ?side2 A11.out).mono ?_); (case side1 => repeat (first | (with_reducible first | exact HI0.out | apply IsS_l1Cur.alloc | apply IsS_l1Cur.drewN | apply IsS_l1Cur.drew | apply IsS_l1Cur.set_1 | apply IsS_l1Cur.set_2) | exact HI0.out)); (case side2 => repeat (first | (with_reducible first | exact HB.out | apply below_alloc | apply pw_below_drewN | apply below_drew1 | refine below_set ?_ (IsS_l1Cur.ge HI0.out)) | exact HB.out)); rintro e w16 ⟨rfl, hi, hb, hk⟩; refine ⟨_, rfl, ?_⟩; have n0_ := Aside0.mk (KeepBut.trans (by repeat (first | (with_reducible first | exact HK.out | apply KeepBut.set_ | apply keep_drewN | apply keep_drew | apply keep_alloc) | exact HK.out)) hk (.inl rfl)); have n1_ := Aside0.mk (hb); have n2_ := Aside0.mk (hi); clear HK; clear HB; clear HI0; have HK := n0_; have HB := n1_; have HI0 := n2_; clear n0_ n1_ n2_; (try clear hb); (try clear hb2); (try clear hk); (try clear hi)))
    go_ret
    exact ⟨by first | rfl | (simp [errW_none, errW_some] <;> rfl) | (simp [*, errW_none, errW_some] <;> rfl), by repeat (first | (with_reducible first | exact HI0.out | apply IsS_l1Cur.alloc | apply IsS_l1Cur.drewN | apply IsS_l1Cur.drew | apply IsS_l1Cur.set_1 | apply IsS_l1Cur.set_2) | exact HI0.out), by repeat (first | (with_reducible first | exact HB.out | apply below_alloc | apply pw_below_drewN | apply below_drew1 | refine below_set ?_ (IsS_l1Cur.ge HI0.out)) | exact HB.out), by repeat (first | (with_reducible first | exact HK.out | apply KeepBut.set_ | apply keep_drewN | apply keep_drew | apply keep_alloc) | exact HK.out)⟩

/-! ### spec_l1Once: function 80 -/
def spec_l1Once.f (s0_0 : List Int) (s0_1 : Int) (s0_2 : Int) (a1 : Int) : Option (Bool × Int × Int) := (spec_l1Below.f s0_0 s0_1 s0_2 a1).bind fun bt120 => (some ((bt120.1 == 0), bt120.2.1, bt120.2.2))
set_option maxHeartbeats 8000000 in
set_option maxRecDepth 100000 in
theorem spec_l1Once.calls (g : Nat) (s0_0 : List Int) (s0_1 : Int) (s0_2 : Int) (a1 : Int) (r1 : Bool) (r2 : Int) (r3 : Int) (w0 w : World) (hI : IsS_l1Cur w0 w g s0_0 s0_1 s0_2) (hB : Below w0.heap.size w0 w) (h : spec_l1Once.f s0_0 s0_1 s0_2 a1 = some (r1, r2, r3)) :
 Calls Try.prog 80 #[.pointer (some ⟨g, 0, none⟩), .int .i64 a1] w fun e w' => e = .returned (.bool r1) ∧ IsS_l1Cur w0 w' g s0_0 r2 r3 ∧ Below w0.heap.size w0 w' ∧ KeepBut w w' g none := by
 have HI0 := Aside0.mk hI
 have HK := Aside0.mk (KeepBut.refl w g none)
 have HL := Aside0.mk hB.size
 clear hI
 have HW0 := Aside0.mk hB.size
 have HB := Aside0.mk hB
 clear hB
 have H : ((spec_l1Below.f s0_0 s0_1 s0_2 a1).bind fun bt120 => (some ((bt120.1 == 0), bt120.2.1, bt120.2.2))) = some (r1, r2, r3) := h
 clear h
 replace H := Option.bind_eq_some_iff.mp H
 obtain ⟨⟨t120, t121, t122⟩, A30, H⟩ := H
 replace H : (some ((t120 == 0), t121, t122)) = some (r1, r2, r3) := H
 have A3 := Aside0.mk A30
 clear A30
 simp only [Option.some.injEq, Prod.mk.injEq] at H
 obtain ⟨rfl, rfl, rfl⟩ := H
 go_enter Try.func80, Try.ntmps80
 go_wp2_with (first | ((with_reducible refine gate_callee (f := 78) rfl ?_); refine goesL_ (some 7) rfl rfl Try.func78 (by kernel_rfl) rfl #[.pointer (some ⟨g, 0, none⟩), .int .i64 a1] rfl sm_ ?_; (with_reducible refine (spec_l1Below.calls g s0_0 s0_1 s0_2 a1 t120 t121 t122 w0 _ ?side1 ?side2 A3.out).mono ?_); (case side1 => repeat (first | (with_reducible first | exact HI0.out | apply IsS_l1Cur.alloc | apply IsS_l1Cur.drewN | apply IsS_l1Cur.drew | apply IsS_l1Cur.set_1 | apply IsS_l1Cur.set_2) | exact HI0.out)); (case side2 => repeat (first | (with_reducible first | exact HB.out | apply below_alloc | apply pw_below_drewN | apply below_drew1 | refine below_set ?_ (IsS_l1Cur.ge HI0.out)) | exact HB.out)); rintro e w4 ⟨rfl, hi, hb, hk⟩; refine ⟨_, rfl, ?_⟩; have n0_ := Aside0.mk (KeepBut.trans (by repeat (first | (with_reducible first | exact HK.out | apply KeepBut.set_ | apply keep_drewN | apply keep_drew | apply keep_alloc) | exact HK.out)) hk (.inl rfl)); have n1_ := Aside0.mk (hb); have n2_ := Aside0.mk (hi); clear HK; clear HB; clear HI0; have HK := n0_; have HB := n1_; have HI0 := n2_; clear n0_ n1_ n2_; (try clear hb); (try clear hb2); (try clear hk); (try clear hi)))
 go_ret
 exact ⟨by first | rfl | (simp [errW_none, errW_some] <;> rfl) | (simp [*, errW_none, errW_some] <;> rfl), by repeat (first | (with_reducible first | exact HI0.out | apply IsS_l1Cur.alloc | apply IsS_l1Cur.drewN | apply IsS_l1Cur.drew | apply IsS_l1Cur.set_1 | apply IsS_l1Cur.set_2) | exact HI0.out), by repeat (first | (with_reducible first | exact HB.out | apply below_alloc | apply pw_below_drewN | apply below_drew1 | refine below_set ?_ (IsS_l1Cur.ge HI0.out)) | exact HB.out), by repeat (first | (with_reducible first | exact HK.out | apply KeepBut.set_ | apply keep_drewN | apply keep_drew | apply keep_alloc) | exact HK.out)⟩

/-! ### spec_l1PickInt: function 104 -/
def spec_l1PickInt.f (s0_0 : List Int) (s0_1 : Int) (s0_2 : Int) (l1 : List Int) : Option (Int × Int × Int) := (spec_l1Below.f s0_0 s0_1 s0_2 (l1.length : Int)).bind fun bt133 => (if 0 ≤ bt133.1 then (if bt133.1 < (l1.length : Int) then (some (rd l1 bt133.1, bt133.2.1, bt133.2.2)) else (none)) else (none))
set_option maxHeartbeats 8000000 in
set_option maxRecDepth 100000 in
theorem spec_l1PickInt.calls (g : Nat) (s0_0 : List Int) (s0_1 : Int) (s0_2 : Int) (A1 : Option Addr) (c1 : Nat) (l1 : List Int) (r1 : Int) (r2 : Int) (r3 : Int) (w0 w : World) (hI : IsS_l1Cur w0 w g s0_0 s0_1 s0_2) (hB : Below w0.heap.size w0 w) (hr1 : Kd.C (Kd.int .i64) w A1 l1.length l1) (hc1 : l1.length ≤ c1) (hf1 : ∀ ad, A1 = some ad → 0 < l1.length → ad.block ≠ g) (h : spec_l1PickInt.f s0_0 s0_1 s0_2 l1 = some (r1, r2, r3)) :
 Calls Try.prog 104 #[.pointer (some ⟨g, 0, none⟩), .slice A1 l1.length c1] w fun e w' => e = .returned (.int .i64 r1) ∧ IsS_l1Cur w0 w' g s0_0 r2 r3 ∧ Below w0.heap.size w0 w' ∧ KeepBut w w' g none := by
 have HR1 := Aside0.mk hr1
 have HC1 := Aside0.mk hc1
 clear hr1 hc1
 have HI0 := Aside0.mk hI
 have HK := Aside0.mk (KeepBut.refl w g none)
 have HL := Aside0.mk hB.size
 clear hI
 have HW0 := Aside0.mk hB.size
 have HB := Aside0.mk hB
 clear hB
 have H : ((spec_l1Below.f s0_0 s0_1 s0_2 (l1.length : Int)).bind fun bt133 => (if 0 ≤ bt133.1 then (if bt133.1 < (l1.length : Int) then (some (rd l1 bt133.1, bt133.2.1, bt133.2.2)) else (none)) else (none))) = some (r1, r2, r3) := h
 clear h
 replace H := Option.bind_eq_some_iff.mp H
 obtain ⟨⟨t133, t134, t135⟩, A30, H⟩ := H
 replace H : (if 0 ≤ t133 then (if t133 < (l1.length : Int) then (some (rd l1 t133, t134, t135)) else (none)) else (none)) = some (r1, r2, r3) := H
 have A3 := Aside0.mk A30
 clear A30
 by_cases c4 : 0 ≤ t133
 ·
  rw [if_pos c4] at H
  have c4b0 : decide (0 ≤ t133) = true := decide_eq_true c4
  clear c4
  by_cases c5 : t133 < (l1.length : Int)
  ·
   rw [if_pos c5] at H
   have c5b0 : decide (t133 < (l1.length : Int)) = true := decide_eq_true c5
   clear c5
   simp only [Option.some.injEq, Prod.mk.injEq] at H
   obtain ⟨rfl, rfl, rfl⟩ := H
   go_enter Try.func104, Try.ntmps104
   go_wp2_with (first | ((with_reducible refine gate_callee (f := 78) rfl ?_); refine goesL_ (some 9) rfl rfl Try.func78 (by kernel_rfl) rfl #[.pointer (some ⟨g, 0, none⟩), .int .i64 (l1.length : Int)] rfl sm_ ?_; (with_reducible refine (spec_l1Below.calls g s0_0 s0_1 s0_2 (l1.length : Int) t133 t134 t135 w0 _ ?side1 ?side2 A3.out).mono ?_); (case side1 => repeat (first | (with_reducible first | exact HI0.out | apply IsS_l1Cur.alloc | apply IsS_l1Cur.drewN | apply IsS_l1Cur.drew | apply IsS_l1Cur.set_1 | apply IsS_l1Cur.set_2) | exact HI0.out)); (case side2 => repeat (first | (with_reducible first | exact HB.out | apply below_alloc | apply pw_below_drewN | apply below_drew1 | refine below_set ?_ (IsS_l1Cur.ge HI0.out)) | exact HB.out)); rintro e w6 ⟨rfl, hi, hb, hk⟩; refine ⟨_, rfl, ?_⟩; have n0_ := Aside0.mk (KeepBut.trans (by repeat (first | (with_reducible first | exact HK.out | apply KeepBut.set_ | apply keep_drewN | apply keep_drew | apply keep_alloc) | exact HK.out)) hk (.inl rfl)); have n1_ := Aside0.mk (hb); have n2_ := Aside0.mk (hi); clear HK; clear HB; clear HI0; have HK := n0_; have HB := n1_; have HI0 := n2_; clear n0_ n1_ n2_; (try clear hb); (try clear hb2); (try clear hk); (try clear hi); have p136 : 0 ≤ (t133 : Int) := of_decide_eq_true (by first | (with_reducible assumption) | assumption); have q136 : t133 < (l1.length : Int) := of_decide_eq_true (by first | (with_reducible assumption) | assumption); obtain ⟨ad136, e136, hx136_0⟩ := Kd.at_int HR1.out t133 p136 q136; cases e136; replace hx136_0 := keep_cell HK.out hx136_0 (by first | (rw [add_block]; exact hf1 _ rfl (by omega)) | exact hf1 _ rfl (by omega) | exact hf1 ad136 rfl (by omega)); replace p136 := eq_true p136; replace q136 := eq_true q136))
   go_ret
   exact ⟨by first | rfl | (simp [errW_none, errW_some] <;> rfl) | (simp [*, errW_none, errW_some] <;> rfl), by repeat (first | (with_reducible first | exact HI0.out | apply IsS_l1Cur.alloc | apply IsS_l1Cur.drewN | apply IsS_l1Cur.drew | apply IsS_l1Cur.set_1 | apply IsS_l1Cur.set_2) | exact HI0.out), by repeat (first | (with_reducible first | exact HB.out | apply below_alloc | apply pw_below_drewN | apply below_drew1 | refine below_set ?_ (IsS_l1Cur.ge HI0.out)) | exact HB.out), by repeat (first | (with_reducible first | exact HK.out | apply KeepBut.set_ | apply keep_drewN | apply keep_drew | apply keep_alloc) | exact HK.out)⟩
  ·
   rw [if_neg c5] at H
   exact absurd H (by simp)
 ·
  rw [if_neg c4] at H
  exact absurd H (by simp)
/-! ### impl_within: function 82 -/
def impl_within.f (a0 : Int) (a1 : Int) (a2 : Int) : Option (Bool) := if a0 ≥ a1 then (some (decide (a0 ≤ a2))) else (some false)
set_option maxHeartbeats 8000000 in
set_option maxRecDepth 100000 in
theorem impl_within.calls (a0 : Int) (a1 : Int) (a2 : Int) (r : Bool) (w : World) (h : impl_within.f a0 a1 a2 = some r) :
 Calls Try.prog 82 #[.int .i64 a0, .int .i64 a1, .int .i64 a2] w fun e w' => e = .returned (.bool r) ∧ Drawn0 w w' := by
 have H : (if a0 ≥ a1 then (some (decide (a0 ≤ a2))) else (some false)) = some r := h
 clear h
 by_cases c4 : a0 ≥ a1
 ·
  rw [if_pos c4] at H
  have c4b0 : decide (a1 ≤ a0) = true := decide_eq_true c4
  clear c4
  obtain rfl := Option.some.inj H
  go_enter Try.func82, Try.ntmps82
  go_wp2
  go_ret
  exact ⟨by first | rfl | (simp; done) | (simp [*]; done), by repeat (first | exact Drawn0.refl _ | apply Drawn0.step)⟩
 ·
  rw [if_neg c4] at H
  have c4b0 : decide (a1 ≤ a0) = false := decide_eq_false c4
  clear c4
  obtain rfl := Option.some.inj H
  go_enter Try.func82, Try.ntmps82
  go_wp2
  go_ret
  exact ⟨by first | rfl | (simp; done) | (simp [*]; done), by repeat (first | exact Drawn0.refl _ | apply Drawn0.step)⟩

/-! ### spec_l1In: function 84 -/
def spec_l1In.f (a0 : Int) (a1 : Int) (a2 : Int) : Option (Bool) := if a0 ≥ a1 then (some (decide (a0 ≤ a2))) else (some false)
set_option maxHeartbeats 8000000 in
set_option maxRecDepth 100000 in
theorem spec_l1In.calls (a0 : Int) (a1 : Int) (a2 : Int) (r : Bool) (w : World) (h : spec_l1In.f a0 a1 a2 = some r) :
 Calls Try.prog 84 #[.int .i64 a0, .int .i64 a1, .int .i64 a2] w fun e w' => e = .returned (.bool r) ∧ Drawn0 w w' := by
 have H : (if a0 ≥ a1 then (some (decide (a0 ≤ a2))) else (some false)) = some r := h
 clear h
 by_cases c4 : a0 ≥ a1
 ·
  rw [if_pos c4] at H
  have c4b0 : decide (a1 ≤ a0) = true := decide_eq_true c4
  clear c4
  obtain rfl := Option.some.inj H
  go_enter Try.func84, Try.ntmps84
  go_wp2
  go_ret
  exact ⟨by first | rfl | (simp; done) | (simp [*]; done), by repeat (first | exact Drawn0.refl _ | apply Drawn0.step)⟩
 ·
  rw [if_neg c4] at H
  have c4b0 : decide (a1 ≤ a0) = false := decide_eq_false c4
  clear c4
  obtain rfl := Option.some.inj H
  go_enter Try.func84, Try.ntmps84
  go_wp2
  go_ret
  exact ⟨by first | rfl | (simp; done) | (simp [*]; done), by repeat (first | exact Drawn0.refl _ | apply Drawn0.step)⟩

/-! ### spec_GroupNew: function 130 -/
def spec_GroupNew.f (a0 : Int) : Option (Int × List Int × List Int × List Int) := (spec_l1In.f a0 1 4).bind fun t509 => (if t509 = true then (if 0 ≤ a0 then (if (a0 : Int).toNat ≤ 35184372088832 then (some (0, ([] : List Int), ([] : List Int), (List.replicate (a0 : Int).toNat 0))) else (none)) else (none)) else (some (0, ([] : List Int), ([] : List Int), ([] : List Int))))
set_option maxHeartbeats 8000000 in
set_option maxRecDepth 100000 in
theorem spec_GroupNew.calls (a0 : Int) (r1 : Int) (r2 : List Int) (r3 : List Int) (r4 : List Int) (w : World) (h : spec_GroupNew.f a0 = some (r1, r2, r3, r4)) :
 Calls Try.prog 130 #[.int .i64 a0] w fun e w' => ∃ v1_ v2_ v3_ : Value, e = .returned (.agg #[.int .i64 r1, v1_, v2_, v3_]) ∧ Kd.R (Kd.int .i64) 3 w' w.heap.size (fun k_ => some k_ ≠ (v2_ : Value).ownBlock ∧ some k_ ≠ (v3_ : Value).ownBlock) v1_ r2 ∧ Kd.R (Kd.int .i64) 3 w' w.heap.size (fun k_ => some k_ ≠ (v1_ : Value).ownBlock ∧ some k_ ≠ (v3_ : Value).ownBlock) v2_ r3 ∧ Kd.R (Kd.int .i64) 3 w' w.heap.size (fun k_ => some k_ ≠ (v1_ : Value).ownBlock ∧ some k_ ≠ (v2_ : Value).ownBlock) v3_ r4 ∧ Below w.heap.size w w' := by
 have hu26 := Try.underlying26
 have HB := Aside0.mk (Below.refl w.heap.size w)
 have H : ((spec_l1In.f a0 1 4).bind fun t509 => (if t509 = true then (if 0 ≤ a0 then (if (a0 : Int).toNat ≤ 35184372088832 then (some (0, ([] : List Int), ([] : List Int), (List.replicate (a0 : Int).toNat 0))) else (none)) else (none)) else (some (0, ([] : List Int), ([] : List Int), ([] : List Int))))) = some (r1, r2, r3, r4) := h
 clear h
 replace H := Option.bind_eq_some_iff.mp H
 obtain ⟨t509, A20, H⟩ := H
 replace H : (if t509 = true then (if 0 ≤ a0 then (if (a0 : Int).toNat ≤ 35184372088832 then (some (0, ([] : List Int), ([] : List Int), (List.replicate (a0 : Int).toNat 0))) else (none)) else (none)) else (some (0, ([] : List Int), ([] : List Int), ([] : List Int)))) = some (r1, r2, r3, r4) := H
 have A2 := Aside0.mk A20
 clear A20
 by_cases c3 : t509 = true
 ·
  subst c3
  have H1 : (if 0 ≤ a0 then (if (a0 : Int).toNat ≤ 35184372088832 then (some (0, ([] : List Int), ([] : List Int), (List.replicate (a0 : Int).toNat 0))) else (none)) else (none)) = some (r1, r2, r3, r4) := by rw [if_pos rfl] at H; exact H
  clear H
  have H := H1
  clear H1
  by_cases c4 : 0 ≤ a0
  ·
   rw [if_pos c4] at H
   have c4b0 := eq_true c4
   have c4b1 : decide (0 ≤ a0) = true := decide_eq_true c4
   clear c4
   by_cases c5 : (a0 : Int).toNat ≤ 35184372088832
   ·
    rw [if_pos c5] at H
    have c5b0 := eq_true c5
    have c5b1 : decide ((a0 : Int).toNat ≤ 35184372088832) = true := decide_eq_true c5
    clear c5
    obtain ⟨y510, hy510⟩ : ∃ y_ : List Int, y_ = (List.replicate (a0 : Int).toNat 0) := ⟨_, rfl⟩
    replace H : (some (0, ([] : List Int), ([] : List Int), y510)) = some (r1, r2, r3, r4) := by first | (rw [hy510]; with_reducible exact H) | (have H2_ := (Option.bind_some _ _).symm.trans H; rw [hy510]; with_reducible exact H2_) | (have H2_ := (Option.bind_some _ _).symm.trans H; with_reducible exact H2_) | with_reducible exact H | (rw [hy510]; exact H) | exact H
    have Ny510 := Aside0.mk hy510
    clear hy510
    simp only [Option.some.injEq, Prod.mk.injEq] at H
    obtain ⟨rfl, rfl, rfl, rfl⟩ := H
    go_enter Try.func130, Try.ntmps130
    go_wp2_with (first | ((with_reducible refine gate_dst (N := 2) rfl ?_); refine box_event ?hg (N := 2) ?hd (cs := #[.int .i64 0, .slice none 0 0, .slice none 0 0, .slice none 0 0]) (t := 26) ?hr ?_; (case hd => rfl); (case hg => rfl); (case hr => first | (go_simp; done) | (go_simp; rfl)); intro gb508 hg w6 hbox hb; have n0_ := Aside0.mk (below_step (hb_ HB.out) hb); have n1_ := Aside0.mk (hbox); have n2_ := Aside0.mk ((by rw [hg]; exact (below_size (hb_ HB.out)) : w.heap.size ≤ gb508)); have n3_ := Aside0.mk ((by rw [hg]; exact (below_size (hb_ HB.out)) : w.heap.size ≤ gb508)); clear HB; have HB := n0_; have BK508 := n1_; have GW508 := n2_; have GE508 := n3_; clear n0_ n1_ n2_ n3_; clear hb hbox hg) | ((with_reducible refine gate_callee (f := 84) rfl ?_); refine goesL_ (some 4) rfl rfl Try.func84 (by kernel_rfl) rfl #[.int .i64 a0, .int .i64 1, .int .i64 4] rfl sm_ ?_; (with_reducible refine (spec_l1In.calls a0 1 4 true _ A2.out).mono ?_); rintro e w' ⟨rfl, ⟨nd, rfl⟩⟩; refine ⟨_, rfl, ?_⟩; (try (rw [drewN_self w6]; generalize hq_ : World.drewN w6 _ = w6; have n0_ : Aside0 (w6.heap[gb508]? = some (.cells #[.int .i64 0, .slice none 0 0, .slice none 0 0, .slice none 0 0] 26 (0, 0))) := ⟨by rw [← hq_]; exact (bq_ BK508.out)⟩; have n1_ : Aside0 (Below w.heap.size w w6) := ⟨by rw [← hq_]; exact (hb_ HB.out)⟩; clear BK508 HB hq_; have BK508 := n0_; have HB := n1_; clear n0_ n1_))) | ((with_reducible refine gate_dst (N := 8) rfl ?_); refine Kd.R_make (Kd.int .i64) _ 3 rfl (N := 8) rfl 24 _ _ rfl a0 rfl rfl Try.underlying24 (.int .i64 0) 8 info3 rfl (by decide) (by omega) 0 (ok := fun _ => True) (okp := fun _ => True) rfl (fun _ hk => hk) trivial (of_decide_eq_true (by first | (with_reducible assumption) | assumption)) (Nat.le_trans (Nat.mul_le_mul_right _ (of_decide_eq_true (by first | (with_reducible assumption) | assumption) : a0.toNat ≤ 35184372088832)) (by omega)) (Below.refl _ _) (Nat.le_refl _) ?_; intro v511 w7 ho8 hb hg_ hnew_; clear hg_ hnew_; (first | rw [← Ny510.out] at ho8 | (simp only [Int.reduceToNat] at ho8; rw [← Ny510.out] at ho8)); have n0_ := Aside0.mk (Kd.R_lower ho8 (below_size (hb_ HB.out))); have n1_ := Aside0.mk (bb_ BK508.out hb); have n2_ := Aside0.mk (below_step (hb_ HB.out) hb); clear BK508; clear HB; have HO512 := n0_; have BK508 := n1_; have HB := n2_; clear n0_ n1_ n2_; clear hb ho8; obtain ⟨Ao9, co9, eo9⟩ := Kd.R_slice HO512.out; subst eo9; have hcz10_0 : w7.cell? ⟨gb508, 0, none⟩ = some (.int .i64 0) := (blk_cell BK508.out 0).trans rfl; have hcz10_1 : w7.cell? ⟨gb508, 1, none⟩ = some (.slice none 0 0) := (blk_cell BK508.out 1).trans rfl; have hcz10_2 : w7.cell? ⟨gb508, 2, none⟩ = some (.slice none 0 0) := (blk_cell BK508.out 2).trans rfl; have hcz10_3 : w7.cell? ⟨gb508, 3, none⟩ = some (.slice none 0 0) := (blk_cell BK508.out 3).trans rfl; have hfz10_0 := blk_frozen BK508.out 0; have hfz10_1 := blk_frozen BK508.out 1; have hfz10_2 := blk_frozen BK508.out 2; have hfz10_3 := blk_frozen BK508.out 3))
    refine bodyPost_ret (results_cell_row rfl _ _ gb508 26 #[.int .i64 0, .slice none 0 0, .slice none 0 0, .slice Ao9 y510.length co9] (0, 0) _ rfl (bp_ BK508.out) Try.underlying26 rfl (by kernel_rfl)) rfl ?_
    exact ⟨_, _, _, er_, by first | exact Kd.R_nil _ _ _ _ _ | exact Kd.N_nil _ _ _ _ _ | exact Kd.V_nil _ _ _ _ _ | exact Kd.Q_nil _ _ _ _ _ | exact Kd.S_nil _ _ _ _ _, by first | exact Kd.R_nil _ _ _ _ _ | exact Kd.N_nil _ _ _ _ _ | exact Kd.V_nil _ _ _ _ _ | exact Kd.Q_nil _ _ _ _ _ | exact Kd.S_nil _ _ _ _ _, by (with_reducible repeat (first | apply Kd.R_alloc | apply Kd.R_drewN | apply Kd.R_drew)); exact Kd.R_mono (Kd.R_far (p := ⟨gb508, 3, none⟩) (Kd.R_far (p := ⟨gb508, 2, none⟩) (Kd.R_far (p := ⟨gb508, 1, none⟩) (Kd.R_far (p := ⟨gb508, 0, none⟩) (Kd.R_types HO512.out BK508.out (by decide)) (fun _ hk => hk.2) (.int .i64 0)) (fun _ hk => hk.2) (.slice none 0 0)) (fun _ hk => hk.2) (.slice none 0 0)) (fun _ hk => hk.2) (.slice Ao9 y510.length co9)) (fun _ hk => ⟨(by simp [Value.ownBlock]), (by simp [Value.ownBlock])⟩), hb_ HB.out⟩
   ·
    rw [if_neg c5] at H
    exact absurd H (by simp)
  ·
   rw [if_neg c4] at H
   exact absurd H (by simp)
 ·
  replace c3 := Bool.eq_false_iff.mpr c3
  subst c3
  have H1 : (some (0, ([] : List Int), ([] : List Int), ([] : List Int))) = some (r1, r2, r3, r4) := by rw [if_neg (show ¬ (false = true) by decide)] at H; exact H
  clear H
  have H := H1
  clear H1
  simp only [Option.some.injEq, Prod.mk.injEq] at H
  obtain ⟨rfl, rfl, rfl, rfl⟩ := H
  go_enter Try.func130, Try.ntmps130
  go_wp2_with (first | ((with_reducible refine gate_dst (N := 2) rfl ?_); refine box_event ?hg (N := 2) ?hd (cs := #[.int .i64 0, .slice none 0 0, .slice none 0 0, .slice none 0 0]) (t := 26) ?hr ?_; (case hd => rfl); (case hg => rfl); (case hr => first | (go_simp; done) | (go_simp; rfl)); intro gb508 hg w11 hbox hb; have n0_ := Aside0.mk (below_step (hb_ HB.out) hb); have n1_ := Aside0.mk (hbox); have n2_ := Aside0.mk ((by rw [hg]; exact (below_size (hb_ HB.out)) : w.heap.size ≤ gb508)); have n3_ := Aside0.mk ((by rw [hg]; exact (below_size (hb_ HB.out)) : w.heap.size ≤ gb508)); clear HB; have HB := n0_; have BK508 := n1_; have GW508 := n2_; have GE508 := n3_; clear n0_ n1_ n2_ n3_; clear hb hbox hg) | ((with_reducible refine gate_callee (f := 84) rfl ?_); refine goesL_ (some 4) rfl rfl Try.func84 (by kernel_rfl) rfl #[.int .i64 a0, .int .i64 1, .int .i64 4] rfl sm_ ?_; (with_reducible refine (spec_l1In.calls a0 1 4 false _ A2.out).mono ?_); rintro e w' ⟨rfl, ⟨nd, rfl⟩⟩; refine ⟨_, rfl, ?_⟩; (try (rw [drewN_self w11]; generalize hq_ : World.drewN w11 _ = w11; have n0_ : Aside0 (w11.heap[gb508]? = some (.cells #[.int .i64 0, .slice none 0 0, .slice none 0 0, .slice none 0 0] 26 (0, 0))) := ⟨by rw [← hq_]; exact (bq_ BK508.out)⟩; have n1_ : Aside0 (Below w.heap.size w w11) := ⟨by rw [← hq_]; exact (hb_ HB.out)⟩; clear BK508 HB hq_; have BK508 := n0_; have HB := n1_; clear n0_ n1_)); have hcz12_0 : w11.cell? ⟨gb508, 0, none⟩ = some (.int .i64 0) := (blk_cell BK508.out 0).trans rfl; have hcz12_1 : w11.cell? ⟨gb508, 1, none⟩ = some (.slice none 0 0) := (blk_cell BK508.out 1).trans rfl; have hcz12_2 : w11.cell? ⟨gb508, 2, none⟩ = some (.slice none 0 0) := (blk_cell BK508.out 2).trans rfl; have hcz12_3 : w11.cell? ⟨gb508, 3, none⟩ = some (.slice none 0 0) := (blk_cell BK508.out 3).trans rfl; have hfz12_0 := blk_frozen BK508.out 0; have hfz12_1 := blk_frozen BK508.out 1; have hfz12_2 := blk_frozen BK508.out 2; have hfz12_3 := blk_frozen BK508.out 3))
  refine bodyPost_ret (results_cell_row rfl _ _ gb508 26 #[.int .i64 0, .slice none 0 0, .slice none 0 0, .slice none 0 0] (0, 0) _ rfl (bp_ BK508.out) Try.underlying26 rfl (by kernel_rfl)) rfl ?_
  exact ⟨_, _, _, er_, by first | exact Kd.R_nil _ _ _ _ _ | exact Kd.N_nil _ _ _ _ _ | exact Kd.V_nil _ _ _ _ _ | exact Kd.Q_nil _ _ _ _ _ | exact Kd.S_nil _ _ _ _ _, by first | exact Kd.R_nil _ _ _ _ _ | exact Kd.N_nil _ _ _ _ _ | exact Kd.V_nil _ _ _ _ _ | exact Kd.Q_nil _ _ _ _ _ | exact Kd.S_nil _ _ _ _ _, by first | exact Kd.R_nil _ _ _ _ _ | exact Kd.N_nil _ _ _ _ _ | exact Kd.V_nil _ _ _ _ _ | exact Kd.Q_nil _ _ _ _ _ | exact Kd.S_nil _ _ _ _ _, hb_ HB.out⟩
/-! ### spec_OwnerOf: function 79 -/
def spec_OwnerOf.f (a0_0 : Int) (l0_1 : List Int) (l0_2 : List Int) (l0_3 : List Int) (a1 : Int) : Option (Int) := if (l0_1.length : Int) = 0 then (some (-1)) else (if a1 < 0 then (some (-1)) else (if 0 ≤ (Int.tmod a1 (l0_1.length : Int)) then (if (Int.tmod a1 (l0_1.length : Int)) < (l0_1.length : Int) then (some (rd l0_1 (Int.tmod a1 (l0_1.length : Int)))) else (none)) else (none)))
set_option maxHeartbeats 8000000 in
set_option maxRecDepth 100000 in
theorem spec_OwnerOf.calls (a0_0 : Int) (A0_1 : Option Addr) (c0_1 : Nat) (l0_1 : List Int) (A0_2 : Option Addr) (c0_2 : Nat) (l0_2 : List Int) (A0_3 : Option Addr) (c0_3 : Nat) (l0_3 : List Int) (a1 : Int) (r : Int) (w : World) (hr0_1 : Kd.C (Kd.int .i64) w A0_1 l0_1.length l0_1) (hc0_1 : l0_1.length ≤ c0_1) (hr0_2 : Kd.C (Kd.int .i64) w A0_2 l0_2.length l0_2) (hc0_2 : l0_2.length ≤ c0_2) (hr0_3 : Kd.C (Kd.int .i64) w A0_3 l0_3.length l0_3) (hc0_3 : l0_3.length ≤ c0_3) (h : spec_OwnerOf.f a0_0 l0_1 l0_2 l0_3 a1 = some r) :
 Calls Try.prog 79 #[.agg #[.int .i64 a0_0, .slice A0_1 l0_1.length c0_1, .slice A0_2 l0_2.length c0_2, .slice A0_3 l0_3.length c0_3], .int .i64 a1] w fun e w' => e = .returned (.int .i64 r) ∧ Below w.heap.size w w' := by
 have hu26 := Try.underlying26
 have HR0_1 := Aside0.mk hr0_1
 have HC0_1 := Aside0.mk hc0_1
 clear hr0_1 hc0_1
 have HR0_2 := Aside0.mk hr0_2
 have HC0_2 := Aside0.mk hc0_2
 clear hr0_2 hc0_2
 have HR0_3 := Aside0.mk hr0_3
 have HC0_3 := Aside0.mk hc0_3
 clear hr0_3 hc0_3
 have HB := Aside0.mk (Below.refl w.heap.size w)
 have H : (if (l0_1.length : Int) = 0 then (some (-1)) else (if a1 < 0 then (some (-1)) else (if 0 ≤ (Int.tmod a1 (l0_1.length : Int)) then (if (Int.tmod a1 (l0_1.length : Int)) < (l0_1.length : Int) then (some (rd l0_1 (Int.tmod a1 (l0_1.length : Int)))) else (none)) else (none)))) = some r := h
 clear h
 by_cases c3 : (l0_1.length : Int) = 0
 ·
  rw [if_pos c3] at H
  have c3b0 : ((l0_1.length : Int) == 0) = true := beq_iff_eq.mpr c3
  have c3b1 : ((l0_1.length : Int) != 0) = false := bne_eq_false_iff_eq.mpr c3
  clear c3
  obtain rfl := Option.some.inj H
  go_enter Try.func79, Try.ntmps79
  go_wp2_with (first | ((with_reducible refine gate_dst (N := 2) rfl ?_); refine box_event ?hg (N := 2) ?hd (cs := #[.int .i64 a0_0, .slice A0_1 l0_1.length c0_1, .slice A0_2 l0_2.length c0_2, .slice A0_3 l0_3.length c0_3]) (t := 26) ?hr ?_; (case hd => rfl); (case hg => rfl); (case hr => first | (go_simp; done) | (go_simp; rfl)); intro gb1318 hg w4 hbox hb; have n0_ := Aside0.mk (below_step (hb_ HB.out) hb); have n1_ := Aside0.mk (hbox); have n2_ := Aside0.mk ((by rw [hg]; exact (below_size (hb_ HB.out)) : w.heap.size ≤ gb1318)); have n3_ := Aside0.mk ((by rw [hg]; exact (below_size (hb_ HB.out)) : w.heap.size ≤ gb1318)); clear HB; have HB := n0_; have BK1318 := n1_; have GW1318 := n2_; have GE1318 := n3_; clear n0_ n1_ n2_ n3_; clear hb hbox hg; have hcz5_0 : w4.cell? ⟨gb1318, 0, none⟩ = some (.int .i64 a0_0) := (blk_cell BK1318.out 0).trans rfl; have hcz5_1 : w4.cell? ⟨gb1318, 1, none⟩ = some (.slice A0_1 l0_1.length c0_1) := (blk_cell BK1318.out 1).trans rfl; have hcz5_2 : w4.cell? ⟨gb1318, 2, none⟩ = some (.slice A0_2 l0_2.length c0_2) := (blk_cell BK1318.out 2).trans rfl; have hcz5_3 : w4.cell? ⟨gb1318, 3, none⟩ = some (.slice A0_3 l0_3.length c0_3) := (blk_cell BK1318.out 3).trans rfl; have hfz5_0 := blk_frozen BK1318.out 0; have hfz5_1 := blk_frozen BK1318.out 1; have hfz5_2 := blk_frozen BK1318.out 2; have hfz5_3 := blk_frozen BK1318.out 3))
  repeat (go_quiet (first | ((with_reducible refine gate_dst (N := 2) rfl ?_); refine box_event ?hg (N := 2) ?hd (cs := #[.int .i64 a0_0, .slice A0_1 l0_1.length c0_1, .slice A0_2 l0_2.length c0_2, .slice A0_3 l0_3.length c0_3]) (t := 26) ?hr ?_; (case hd => rfl); (case hg => rfl); (case hr => first | (go_simp; done) | (go_simp; rfl)); intro gb1318 hg w4 hbox hb; have n0_ := Aside0.mk (below_step (hb_ HB.out) hb); have n1_ := Aside0.mk (hbox); have n2_ := Aside0.mk ((by rw [hg]; exact (below_size (hb_ HB.out)) : w.heap.size ≤ gb1318)); have n3_ := Aside0.mk ((by rw [hg]; exact (below_size (hb_ HB.out)) : w.heap.size ≤ gb1318)); clear HB; have HB := n0_; have BK1318 := n1_; have GW1318 := n2_; have GE1318 := n3_; clear n0_ n1_ n2_ n3_; clear hb hbox hg; have hcz5_0 : w4.cell? ⟨gb1318, 0, none⟩ = some (.int .i64 a0_0) := (blk_cell BK1318.out 0).trans rfl; have hcz5_1 : w4.cell? ⟨gb1318, 1, none⟩ = some (.slice A0_1 l0_1.length c0_1) := (blk_cell BK1318.out 1).trans rfl; have hcz5_2 : w4.cell? ⟨gb1318, 2, none⟩ = some (.slice A0_2 l0_2.length c0_2) := (blk_cell BK1318.out 2).trans rfl; have hcz5_3 : w4.cell? ⟨gb1318, 3, none⟩ = some (.slice A0_3 l0_3.length c0_3) := (blk_cell BK1318.out 3).trans rfl; have hfz5_0 := blk_frozen BK1318.out 0; have hfz5_1 := blk_frozen BK1318.out 1; have hfz5_2 := blk_frozen BK1318.out 2; have hfz5_3 := blk_frozen BK1318.out 3)); try go_wp2_with (first | ((with_reducible refine gate_dst (N := 2) rfl ?_); refine box_event ?hg (N := 2) ?hd (cs := #[.int .i64 a0_0, .slice A0_1 l0_1.length c0_1, .slice A0_2 l0_2.length c0_2, .slice A0_3 l0_3.length c0_3]) (t := 26) ?hr ?_; (case hd => rfl); (case hg => rfl); (case hr => first | (go_simp; done) | (go_simp; rfl)); intro gb1318 hg w4 hbox hb; have n0_ := Aside0.mk (below_step (hb_ HB.out) hb); have n1_ := Aside0.mk (hbox); have n2_ := Aside0.mk ((by rw [hg]; exact (below_size (hb_ HB.out)) : w.heap.size ≤ gb1318)); have n3_ := Aside0.mk ((by rw [hg]; exact (below_size (hb_ HB.out)) : w.heap.size ≤ gb1318)); clear HB; have HB := n0_; have BK1318 := n1_; have GW1318 := n2_; have GE1318 := n3_; clear n0_ n1_ n2_ n3_; clear hb hbox hg; have hcz5_0 : w4.cell? ⟨gb1318, 0, none⟩ = some (.int .i64 a0_0) := (blk_cell BK1318.out 0).trans rfl; have hcz5_1 : w4.cell? ⟨gb1318, 1, none⟩ = some (.slice A0_1 l0_1.length c0_1) := (blk_cell BK1318.out 1).trans rfl; have hcz5_2 : w4.cell? ⟨gb1318, 2, none⟩ = some (.slice A0_2 l0_2.length c0_2) := (blk_cell BK1318.out 2).trans rfl; have hcz5_3 : w4.cell? ⟨gb1318, 3, none⟩ = some (.slice A0_3 l0_3.length c0_3) := (blk_cell BK1318.out 3).trans rfl; have hfz5_0 := blk_frozen BK1318.out 0; have hfz5_1 := blk_frozen BK1318.out 1; have hfz5_2 := blk_frozen BK1318.out 2; have hfz5_3 := blk_frozen BK1318.out 3)))
  go_ret
  exact ⟨er_, hb_ HB.out⟩
 ·
  rw [if_neg c3] at H
  have c3b0 : ((l0_1.length : Int) == 0) = false := beq_eq_false_iff_ne.mpr c3
  have c3b1 : ((l0_1.length : Int) != 0) = true := bne_iff_ne.mpr c3
  have c3b2 : ¬ (l0_1 = []) := fun h_ => c3 (by rw [h_]; rfl)
  by_cases c6 : a1 < 0
  ·
   rw [if_pos c6] at H
   have c6b0 : decide (a1 < 0) = true := decide_eq_true c6
   clear c6
   obtain rfl := Option.some.inj H
   go_enter Try.func79, Try.ntmps79
   go_wp2_with (first | ((with_reducible refine gate_dst (N := 2) rfl ?_); refine box_event ?hg (N := 2) ?hd (cs := #[.int .i64 a0_0, .slice A0_1 l0_1.length c0_1, .slice A0_2 l0_2.length c0_2, .slice A0_3 l0_3.length c0_3]) (t := 26) ?hr ?_; (case hd => rfl); (case hg => rfl); (case hr => first | (go_simp; done) | (go_simp; rfl)); intro gb1318 hg w7 hbox hb; have n0_ := Aside0.mk (below_step (hb_ HB.out) hb); have n1_ := Aside0.mk (hbox); have n2_ := Aside0.mk ((by rw [hg]; exact (below_size (hb_ HB.out)) : w.heap.size ≤ gb1318)); have n3_ := Aside0.mk ((by rw [hg]; exact (below_size (hb_ HB.out)) : w.heap.size ≤ gb1318)); clear HB; have HB := n0_; have BK1318 := n1_; have GW1318 := n2_; have GE1318 := n3_; clear n0_ n1_ n2_ n3_; clear hb hbox hg; have hcz8_0 : w7.cell? ⟨gb1318, 0, none⟩ = some (.int .i64 a0_0) := (blk_cell BK1318.out 0).trans rfl; have hcz8_1 : w7.cell? ⟨gb1318, 1, none⟩ = some (.slice A0_1 l0_1.length c0_1) := (blk_cell BK1318.out 1).trans rfl; have hcz8_2 : w7.cell? ⟨gb1318, 2, none⟩ = some (.slice A0_2 l0_2.length c0_2) := (blk_cell BK1318.out 2).trans rfl; have hcz8_3 : w7.cell? ⟨gb1318, 3, none⟩ = some (.slice A0_3 l0_3.length c0_3) := (blk_cell BK1318.out 3).trans rfl; have hfz8_0 := blk_frozen BK1318.out 0; have hfz8_1 := blk_frozen BK1318.out 1; have hfz8_2 := blk_frozen BK1318.out 2; have hfz8_3 := blk_frozen BK1318.out 3))
   repeat (go_quiet (first | ((with_reducible refine gate_dst (N := 2) rfl ?_); refine box_event ?hg (N := 2) ?hd (cs := #[.int .i64 a0_0, .slice A0_1 l0_1.length c0_1, .slice A0_2 l0_2.length c0_2, .slice A0_3 l0_3.length c0_3]) (t := 26) ?hr ?_; (case hd => rfl); (case hg => rfl); (case hr => first | (go_simp; done) | (go_simp; rfl)); intro gb1318 hg w7 hbox hb; have n0_ := Aside0.mk (below_step (hb_ HB.out) hb); have n1_ := Aside0.mk (hbox); have n2_ := Aside0.mk ((by rw [hg]; exact (below_size (hb_ HB.out)) : w.heap.size ≤ gb1318)); have n3_ := Aside0.mk ((by rw [hg]; exact (below_size (hb_ HB.out)) : w.heap.size ≤ gb1318)); clear HB; have HB := n0_; have BK1318 := n1_; have GW1318 := n2_; have GE1318 := n3_; clear n0_ n1_ n2_ n3_; clear hb hbox hg; have hcz8_0 : w7.cell? ⟨gb1318, 0, none⟩ = some (.int .i64 a0_0) := (blk_cell BK1318.out 0).trans rfl; have hcz8_1 : w7.cell? ⟨gb1318, 1, none⟩ = some (.slice A0_1 l0_1.length c0_1) := (blk_cell BK1318.out 1).trans rfl; have hcz8_2 : w7.cell? ⟨gb1318, 2, none⟩ = some (.slice A0_2 l0_2.length c0_2) := (blk_cell BK1318.out 2).trans rfl; have hcz8_3 : w7.cell? ⟨gb1318, 3, none⟩ = some (.slice A0_3 l0_3.length c0_3) := (blk_cell BK1318.out 3).trans rfl; have hfz8_0 := blk_frozen BK1318.out 0; have hfz8_1 := blk_frozen BK1318.out 1; have hfz8_2 := blk_frozen BK1318.out 2; have hfz8_3 := blk_frozen BK1318.out 3)); try go_wp2_with (first | ((with_reducible refine gate_dst (N := 2) rfl ?_); refine box_event ?hg (N := 2) ?hd (cs := #[.int .i64 a0_0, .slice A0_1 l0_1.length c0_1, .slice A0_2 l0_2.length c0_2, .slice A0_3 l0_3.length c0_3]) (t := 26) ?hr ?_; (case hd => rfl); (case hg => rfl); (case hr => first | (go_simp; done) | (go_simp; rfl)); intro gb1318 hg w7 hbox hb; have n0_ := Aside0.mk (below_step (hb_ HB.out) hb); have n1_ := Aside0.mk (hbox); have n2_ := Aside0.mk ((by rw [hg]; exact (below_size (hb_ HB.out)) : w.heap.size ≤ gb1318)); have n3_ := Aside0.mk ((by rw [hg]; exact (below_size (hb_ HB.out)) : w.heap.size ≤ gb1318)); clear HB; have HB := n0_; have BK1318 := n1_; have GW1318 := n2_; have GE1318 := n3_; clear n0_ n1_ n2_ n3_; clear hb hbox hg; have hcz8_0 : w7.cell? ⟨gb1318, 0, none⟩ = some (.int .i64 a0_0) := (blk_cell BK1318.out 0).trans rfl; have hcz8_1 : w7.cell? ⟨gb1318, 1, none⟩ = some (.slice A0_1 l0_1.length c0_1) := (blk_cell BK1318.out 1).trans rfl; have hcz8_2 : w7.cell? ⟨gb1318, 2, none⟩ = some (.slice A0_2 l0_2.length c0_2) := (blk_cell BK1318.out 2).trans rfl; have hcz8_3 : w7.cell? ⟨gb1318, 3, none⟩ = some (.slice A0_3 l0_3.length c0_3) := (blk_cell BK1318.out 3).trans rfl; have hfz8_0 := blk_frozen BK1318.out 0; have hfz8_1 := blk_frozen BK1318.out 1; have hfz8_2 := blk_frozen BK1318.out 2; have hfz8_3 := blk_frozen BK1318.out 3)))
   go_ret
   exact ⟨er_, hb_ HB.out⟩
  ·
   rw [if_neg c6] at H
   have c6b0 : decide (a1 < 0) = false := decide_eq_false c6
   clear c6
   obtain ⟨ji9, hji9⟩ : ∃ j_ : Int, (Int.tmod a1 (l0_1.length : Int)) = j_ := ⟨_, rfl⟩
   replace H : (if 0 ≤ (ji9) then (if (ji9) < (l0_1.length : Int) then (some (rd l0_1 (ji9))) else (none)) else (none)) = some r := by first | (rw [hji9] at H; exact H) | (simp only [hji9] at H ⊢; exact H)
   by_cases c10 : 0 ≤ (ji9)
   ·
    rw [if_pos c10] at H
    have c10b0 : decide (0 ≤ (ji9)) = true := decide_eq_true c10
    clear c10
    by_cases c11 : (ji9) < (l0_1.length : Int)
    ·
     rw [if_pos c11] at H
     have c11b0 : decide ((ji9) < (l0_1.length : Int)) = true := decide_eq_true c11
     clear c11
     obtain rfl := Option.some.inj H
     go_enter Try.func79, Try.ntmps79
     go_wp2_with (first | ((with_reducible refine gate_dst (N := 2) rfl ?_); refine box_event ?hg (N := 2) ?hd (cs := #[.int .i64 a0_0, .slice A0_1 l0_1.length c0_1, .slice A0_2 l0_2.length c0_2, .slice A0_3 l0_3.length c0_3]) (t := 26) ?hr ?_; (case hd => rfl); (case hg => rfl); (case hr => first | (go_simp; done) | (go_simp; rfl)); intro gb1318 hg w12 hbox hb; have n0_ := Aside0.mk (below_step (hb_ HB.out) hb); have n1_ := Aside0.mk (hbox); have n2_ := Aside0.mk ((by rw [hg]; exact (below_size (hb_ HB.out)) : w.heap.size ≤ gb1318)); have n3_ := Aside0.mk ((by rw [hg]; exact (below_size (hb_ HB.out)) : w.heap.size ≤ gb1318)); clear HB; have HB := n0_; have BK1318 := n1_; have GW1318 := n2_; have GE1318 := n3_; clear n0_ n1_ n2_ n3_; clear hb hbox hg; have hcz13_0 : w12.cell? ⟨gb1318, 0, none⟩ = some (.int .i64 a0_0) := (blk_cell BK1318.out 0).trans rfl; have hcz13_1 : w12.cell? ⟨gb1318, 1, none⟩ = some (.slice A0_1 l0_1.length c0_1) := (blk_cell BK1318.out 1).trans rfl; have hcz13_2 : w12.cell? ⟨gb1318, 2, none⟩ = some (.slice A0_2 l0_2.length c0_2) := (blk_cell BK1318.out 2).trans rfl; have hcz13_3 : w12.cell? ⟨gb1318, 3, none⟩ = some (.slice A0_3 l0_3.length c0_3) := (blk_cell BK1318.out 3).trans rfl; have hfz13_0 := blk_frozen BK1318.out 0; have hfz13_1 := blk_frozen BK1318.out 1; have hfz13_2 := blk_frozen BK1318.out 2; have hfz13_3 := blk_frozen BK1318.out 3; have p1319 : 0 ≤ ((ji9) : Int) := of_decide_eq_true (by first | (with_reducible assumption) | assumption); have q1319 : (ji9) < (l0_1.length : Int) := of_decide_eq_true (by first | (with_reducible assumption) | assumption); obtain ⟨ad1319, e1319, hx1319_0⟩ := Kd.at_int HR0_1.out (ji9) p1319 q1319; cases e1319; replace hx1319_0 := (HB.out.cell (World.block_lt_of_cell? w _ hx1319_0)).trans hx1319_0; replace p1319 := eq_true p1319; replace q1319 := eq_true q1319))
     repeat (go_quiet (first | ((with_reducible refine gate_dst (N := 2) rfl ?_); refine box_event ?hg (N := 2) ?hd (cs := #[.int .i64 a0_0, .slice A0_1 l0_1.length c0_1, .slice A0_2 l0_2.length c0_2, .slice A0_3 l0_3.length c0_3]) (t := 26) ?hr ?_; (case hd => rfl); (case hg => rfl); (case hr => first | (go_simp; done) | (go_simp; rfl)); intro gb1318 hg w12 hbox hb; have n0_ := Aside0.mk (below_step (hb_ HB.out) hb); have n1_ := Aside0.mk (hbox); have n2_ := Aside0.mk ((by rw [hg]; exact (below_size (hb_ HB.out)) : w.heap.size ≤ gb1318)); have n3_ := Aside0.mk ((by rw [hg]; exact (below_size (hb_ HB.out)) : w.heap.size ≤ gb1318)); clear HB; have HB := n0_; have BK1318 := n1_; have GW1318 := n2_; have GE1318 := n3_; clear n0_ n1_ n2_ n3_; clear hb hbox hg; have hcz13_0 : w12.cell? ⟨gb1318, 0, none⟩ = some (.int .i64 a0_0) := (blk_cell BK1318.out 0).trans rfl; have hcz13_1 : w12.cell? ⟨gb1318, 1, none⟩ = some (.slice A0_1 l0_1.length c0_1) := (blk_cell BK1318.out 1).trans rfl; have hcz13_2 : w12.cell? ⟨gb1318, 2, none⟩ = some (.slice A0_2 l0_2.length c0_2) := (blk_cell BK1318.out 2).trans rfl; have hcz13_3 : w12.cell? ⟨gb1318, 3, none⟩ = some (.slice A0_3 l0_3.length c0_3) := (blk_cell BK1318.out 3).trans rfl; have hfz13_0 := blk_frozen BK1318.out 0; have hfz13_1 := blk_frozen BK1318.out 1; have hfz13_2 := blk_frozen BK1318.out 2; have hfz13_3 := blk_frozen BK1318.out 3; have p1319 : 0 ≤ ((ji9) : Int) := of_decide_eq_true (by first | (with_reducible assumption) | assumption); have q1319 : (ji9) < (l0_1.length : Int) := of_decide_eq_true (by first | (with_reducible assumption) | assumption); obtain ⟨ad1319, e1319, hx1319_0⟩ := Kd.at_int HR0_1.out (ji9) p1319 q1319; cases e1319; replace hx1319_0 := (HB.out.cell (World.block_lt_of_cell? w _ hx1319_0)).trans hx1319_0; replace p1319 := eq_true p1319; replace q1319 := eq_true q1319)); try go_wp2_with (first | ((with_reducible refine gate_dst (N := 2) rfl ?_); refine box_event ?hg (N := 2) ?hd (cs := #[.int .i64 a0_0, .slice A0_1 l0_1.length c0_1, .slice A0_2 l0_2.length c0_2, .slice A0_3 l0_3.length c0_3]) (t := 26) ?hr ?_; (case hd => rfl); (case hg => rfl); (case hr => first | (go_simp; done) | (go_simp; rfl)); intro gb1318 hg w12 hbox hb; have n0_ := Aside0.mk (below_step (hb_ HB.out) hb); have n1_ := Aside0.mk (hbox); have n2_ := Aside0.mk ((by rw [hg]; exact (below_size (hb_ HB.out)) : w.heap.size ≤ gb1318)); have n3_ := Aside0.mk ((by rw [hg]; exact (below_size (hb_ HB.out)) : w.heap.size ≤ gb1318)); clear HB; have HB := n0_; have BK1318 := n1_; have GW1318 := n2_; have GE1318 := n3_; clear n0_ n1_ n2_ n3_; clear hb hbox hg; have hcz13_0 : w12.cell? ⟨gb1318, 0, none⟩ = some (.int .i64 a0_0) := (blk_cell BK1318.out 0).trans rfl; have hcz13_1 : w12.cell? ⟨gb1318, 1, none⟩ = some (.slice A0_1 l0_1.length c0_1) := (blk_cell BK1318.out 1).trans rfl; have hcz13_2 : w12.cell? ⟨gb1318, 2, none⟩ = some (.slice A0_2 l0_2.length c0_2) := (blk_cell BK1318.out 2).trans rfl; have hcz13_3 : w12.cell? ⟨gb1318, 3, none⟩ = some (.slice A0_3 l0_3.length c0_3) := (blk_cell BK1318.out 3).trans rfl; have hfz13_0 := blk_frozen BK1318.out 0; have hfz13_1 := blk_frozen BK1318.out 1; have hfz13_2 := blk_frozen BK1318.out 2; have hfz13_3 := blk_frozen BK1318.out 3; have p1319 : 0 ≤ ((ji9) : Int) := of_decide_eq_true (by first | (with_reducible assumption) | assumption); have q1319 : (ji9) < (l0_1.length : Int) := of_decide_eq_true (by first | (with_reducible assumption) | assumption); obtain ⟨ad1319, e1319, hx1319_0⟩ := Kd.at_int HR0_1.out (ji9) p1319 q1319; cases e1319; replace hx1319_0 := (HB.out.cell (World.block_lt_of_cell? w _ hx1319_0)).trans hx1319_0; replace p1319 := eq_true p1319; replace q1319 := eq_true q1319)))
     go_ret
     exact ⟨by first | rfl | (simp [errW_none, errW_some] <;> rfl) | (simp only [← hji9]; first | rfl | (simp [errW_none, errW_some] <;> rfl)) | (simp [*, errW_none, errW_some] <;> rfl), hb_ HB.out⟩
    ·
     rw [if_neg c11] at H
     exact absurd H (by simp)
   ·
    rw [if_neg c10] at H
    exact absurd H (by simp)
/-! ### spec_l5Copy: function 83 -/
abbrev spec_l5Copy.m0 : Array Bool := #[true, true, true, true, true, true, true, true, true, true, true, true, true, false, false, false]
abbrev spec_l5Copy.m1 : Array Bool := #[true, true, true, true, true, true, true, true, true, true, false, true, true, false, false, false]
abbrev spec_l5Copy.m2 : Array Bool := #[true, true, true, true, true, true, true, true, true, false, true, true, true, false, false, false]
abbrev spec_l5Copy.m3 : Array Bool := #[true, true, true, true, true, true, true, true, true, false, false, true, true, false, false, false]
abbrev spec_l5Copy.m4 : Array Bool := #[true, true, true, true, true, true, false, true, true, false, true, true, true, false, false, false]
abbrev spec_l5Copy.m5 : Array Bool := #[true, true, true, true, true, false, true, true, true, false, true, true, true, false, false, false]
abbrev spec_l5Copy.m6 : Array Bool := #[true, true, true, true, true, true, false, true, true, false, false, true, true, false, false, false]
abbrev spec_l5Copy.m7 : Array Bool := #[true, true, true, true, true, false, true, true, true, false, false, true, true, false, false, false]
abbrev spec_l5Copy.m8 : Array Bool := #[true, true, true, true, true, false, false, true, true, false, true, true, true, false, false, false]
abbrev spec_l5Copy.m9 : Array Bool := #[true, true, false, true, true, false, true, true, true, false, true, true, true, false, false, false]
abbrev spec_l5Copy.m10 : Array Bool := #[true, true, true, true, true, false, false, true, true, false, false, true, true, false, false, false]
abbrev spec_l5Copy.m11 : Array Bool := #[true, true, false, true, true, false, true, true, true, false, false, true, true, false, false, false]
abbrev spec_l5Copy.m12 : Array Bool := #[true, true, false, true, true, false, false, true, true, false, true, true, true, false, false, false]
def spec_l5Copy.f (a0_0 : Int) (l0_1 : List Int) (l0_2 : List Int) (l0_3 : List Int) : Option (Int × List Int × List Int × List Int) := (some (([] : List Int) : List Int)).bind fun y1322 => (if y1322.length + l0_1.length < 17592186044416 then ((some (([] : List Int) : List Int)).bind fun y1328 => (if y1328.length + l0_2.length < 17592186044416 then ((some (([] : List Int) : List Int)).bind fun y1334 => (if y1334.length + l0_3.length < 17592186044416 then (some (a0_0, (y1322 ++ l0_1), (y1328 ++ l0_2), (y1334 ++ l0_3))) else (none))) else (none))) else (none))
def spec_l5Copy.T1 : Bool × List (List Nat × List Nat) := (true, [([], []), ([0], [0]), ([], []), ([], []), ([3], [3]), ([2, 4], [2, 4]), ([], []), ([], []), ([7], [7]), ([6, 8, 5], [6, 8]), ([], []), ([], []), ([11], [11]), ([10, 12, 9], [10, 12]), ([1, 5, 9, 13], [1, 5, 9, 13]), ([14, 13, 0, 1, 2, 3, 4, 5, 6, 7, 8, 9, 10, 11, 12, 13, 14], [14])])
def spec_l5Copy.B1 : List Nat := [0, 1, 0, 0, 8, 28, 0, 0, 128, 508, 0, 0, 2048, 8188, 16383, 32767]
theorem spec_l5Copy.tab1 : rtab .any (opsOf Try.f83 1) = spec_l5Copy.T1 := by kernel_rfl
theorem spec_l5Copy.bits1 : waitsOk spec_l5Copy.T1.2 spec_l5Copy.B1 = true := by kernel_rfl
set_option maxHeartbeats 8000000 in
set_option maxRecDepth 100000 in
theorem spec_l5Copy.calls (a0_0 : Int) (A0_1 : Option Addr) (c0_1 : Nat) (l0_1 : List Int) (A0_2 : Option Addr) (c0_2 : Nat) (l0_2 : List Int) (A0_3 : Option Addr) (c0_3 : Nat) (l0_3 : List Int) (r1 : Int) (r2 : List Int) (r3 : List Int) (r4 : List Int) (w : World) (hr0_1 : Kd.C (Kd.int .i64) w A0_1 l0_1.length l0_1) (hc0_1 : l0_1.length ≤ c0_1) (hr0_2 : Kd.C (Kd.int .i64) w A0_2 l0_2.length l0_2) (hc0_2 : l0_2.length ≤ c0_2) (hr0_3 : Kd.C (Kd.int .i64) w A0_3 l0_3.length l0_3) (hc0_3 : l0_3.length ≤ c0_3) (h : spec_l5Copy.f a0_0 l0_1 l0_2 l0_3 = some (r1, r2, r3, r4)) :
 Calls Try.prog 83 #[.agg #[.int .i64 a0_0, .slice A0_1 l0_1.length c0_1, .slice A0_2 l0_2.length c0_2, .slice A0_3 l0_3.length c0_3]] w fun e w' => ∃ v1_ v2_ v3_ : Value, e = .returned (.agg #[.int .i64 r1, v1_, v2_, v3_]) ∧ Kd.R (Kd.int .i64) 3 w' w.heap.size (fun k_ => some k_ ≠ (v2_ : Value).ownBlock ∧ some k_ ≠ (v3_ : Value).ownBlock) v1_ r2 ∧ Kd.R (Kd.int .i64) 3 w' w.heap.size (fun k_ => some k_ ≠ (v1_ : Value).ownBlock ∧ some k_ ≠ (v3_ : Value).ownBlock) v2_ r3 ∧ Kd.R (Kd.int .i64) 3 w' w.heap.size (fun k_ => some k_ ≠ (v1_ : Value).ownBlock ∧ some k_ ≠ (v2_ : Value).ownBlock) v3_ r4 ∧ Below w.heap.size w w' := by
 have hu26 := Try.underlying26
 have HR0_1 := Aside0.mk hr0_1
 have HC0_1 := Aside0.mk hc0_1
 clear hr0_1 hc0_1
 have HR0_2 := Aside0.mk hr0_2
 have HC0_2 := Aside0.mk hc0_2
 clear hr0_2 hc0_2
 have HR0_3 := Aside0.mk hr0_3
 have HC0_3 := Aside0.mk hc0_3
 clear hr0_3 hc0_3
 have HB := Aside0.mk (Below.refl w.heap.size w)
 have H : ((some (([] : List Int) : List Int)).bind fun y1322 => (if y1322.length + l0_1.length < 17592186044416 then ((some (([] : List Int) : List Int)).bind fun y1328 => (if y1328.length + l0_2.length < 17592186044416 then ((some (([] : List Int) : List Int)).bind fun y1334 => (if y1334.length + l0_3.length < 17592186044416 then (some (a0_0, (y1322 ++ l0_1), (y1328 ++ l0_2), (y1334 ++ l0_3))) else (none))) else (none))) else (none))) = some (r1, r2, r3, r4) := h
 clear h
 obtain ⟨y1322, hy1322⟩ : ∃ y_ : List Int, y_ = (([] : List Int)) := ⟨_, rfl⟩
 replace H : (if y1322.length + l0_1.length < 17592186044416 then ((some (([] : List Int) : List Int)).bind fun y1328 => (if y1328.length + l0_2.length < 17592186044416 then ((some (([] : List Int) : List Int)).bind fun y1334 => (if y1334.length + l0_3.length < 17592186044416 then (some (a0_0, (y1322 ++ l0_1), (y1328 ++ l0_2), (y1334 ++ l0_3))) else (none))) else (none))) else (none)) = some (r1, r2, r3, r4) := by first | (rw [hy1322]; with_reducible exact H) | (have H2_ := (Option.bind_some _ _).symm.trans H; rw [hy1322]; with_reducible exact H2_) | (have H2_ := (Option.bind_some _ _).symm.trans H; with_reducible exact H2_) | with_reducible exact H | (rw [hy1322]; exact H) | exact H
 have Ny1322 := Aside0.mk hy1322
 clear hy1322
 by_cases c2 : y1322.length + l0_1.length < 17592186044416
 ·
  rw [if_pos c2] at H
  have LMc2 := Aside0.mk c2
  clear c2
  obtain ⟨y1325, hy1325⟩ : ∃ y_ : List Int, y_ = (y1322 ++ l0_1) := ⟨_, rfl⟩
  replace H : ((some (([] : List Int) : List Int)).bind fun y1328 => (if y1328.length + l0_2.length < 17592186044416 then ((some (([] : List Int) : List Int)).bind fun y1334 => (if y1334.length + l0_3.length < 17592186044416 then (some (a0_0, y1325, (y1328 ++ l0_2), (y1334 ++ l0_3))) else (none))) else (none))) = some (r1, r2, r3, r4) := by first | (rw [hy1325]; with_reducible exact H) | (have H2_ := (Option.bind_some _ _).symm.trans H; rw [hy1325]; with_reducible exact H2_) | (have H2_ := (Option.bind_some _ _).symm.trans H; with_reducible exact H2_) | with_reducible exact H | (rw [hy1325]; exact H) | exact H
  have Ny1325 := Aside0.mk hy1325
  clear hy1325
  obtain ⟨y1328, hy1328⟩ : ∃ y_ : List Int, y_ = (([] : List Int)) := ⟨_, rfl⟩
  replace H : (if y1328.length + l0_2.length < 17592186044416 then ((some (([] : List Int) : List Int)).bind fun y1334 => (if y1334.length + l0_3.length < 17592186044416 then (some (a0_0, y1325, (y1328 ++ l0_2), (y1334 ++ l0_3))) else (none))) else (none)) = some (r1, r2, r3, r4) := by first | (rw [hy1328]; with_reducible exact H) | (have H2_ := (Option.bind_some _ _).symm.trans H; rw [hy1328]; with_reducible exact H2_) | (have H2_ := (Option.bind_some _ _).symm.trans H; with_reducible exact H2_) | with_reducible exact H | (rw [hy1328]; exact H) | exact H
  have Ny1328 := Aside0.mk hy1328
  clear hy1328
  by_cases c3 : y1328.length + l0_2.length < 17592186044416
  ·
   rw [if_pos c3] at H
   have LMc3 := Aside0.mk c3
   clear c3
   obtain ⟨y1331, hy1331⟩ : ∃ y_ : List Int, y_ = (y1328 ++ l0_2) := ⟨_, rfl⟩
   replace H : ((some (([] : List Int) : List Int)).bind fun y1334 => (if y1334.length + l0_3.length < 17592186044416 then (some (a0_0, y1325, y1331, (y1334 ++ l0_3))) else (none))) = some (r1, r2, r3, r4) := by first | (rw [hy1331]; with_reducible exact H) | (have H2_ := (Option.bind_some _ _).symm.trans H; rw [hy1331]; with_reducible exact H2_) | (have H2_ := (Option.bind_some _ _).symm.trans H; with_reducible exact H2_) | with_reducible exact H | (rw [hy1331]; exact H) | exact H
   have Ny1331 := Aside0.mk hy1331
   clear hy1331
   obtain ⟨y1334, hy1334⟩ : ∃ y_ : List Int, y_ = (([] : List Int)) := ⟨_, rfl⟩
   replace H : (if y1334.length + l0_3.length < 17592186044416 then (some (a0_0, y1325, y1331, (y1334 ++ l0_3))) else (none)) = some (r1, r2, r3, r4) := by first | (rw [hy1334]; with_reducible exact H) | (have H2_ := (Option.bind_some _ _).symm.trans H; rw [hy1334]; with_reducible exact H2_) | (have H2_ := (Option.bind_some _ _).symm.trans H; with_reducible exact H2_) | with_reducible exact H | (rw [hy1334]; exact H) | exact H
   have Ny1334 := Aside0.mk hy1334
   clear hy1334
   by_cases c4 : y1334.length + l0_3.length < 17592186044416
   ·
    rw [if_pos c4] at H
    have LMc4 := Aside0.mk c4
    clear c4
    obtain ⟨y1337, hy1337⟩ : ∃ y_ : List Int, y_ = (y1334 ++ l0_3) := ⟨_, rfl⟩
    replace H : (some (a0_0, y1325, y1331, y1337)) = some (r1, r2, r3, r4) := by first | (rw [hy1337]; with_reducible exact H) | (have H2_ := (Option.bind_some _ _).symm.trans H; rw [hy1337]; with_reducible exact H2_) | (have H2_ := (Option.bind_some _ _).symm.trans H; with_reducible exact H2_) | with_reducible exact H | (rw [hy1337]; exact H) | exact H
    have Ny1337 := Aside0.mk hy1337
    clear hy1337
    simp only [Option.some.injEq, Prod.mk.injEq] at H
    obtain ⟨rfl, rfl, rfl, rfl⟩ := H
    go_enter Try.func83, Try.ntmps83
    try go_wp2_with (first | ((with_reducible refine gate_dst (N := 1) rfl ?_); refine box_event ?hg (N := 1) ?hd (cs := #[.int .i64 a0_0, .slice A0_1 l0_1.length c0_1, .slice A0_2 l0_2.length c0_2, .slice A0_3 l0_3.length c0_3]) (t := 26) ?hr ?_; (case hd => rfl); (case hg => rfl); (case hr => first | (go_simp; done) | (go_simp; rfl)); intro gb1320 hg w5 hbox hb; have n0_ := Aside0.mk (below_step (hb_ HB.out) hb); have n1_ := Aside0.mk (hbox); have n2_ := Aside0.mk ((by rw [hg]; exact (below_size (hb_ HB.out)) : w.heap.size ≤ gb1320)); have n3_ := Aside0.mk ((by rw [hg]; exact (below_size (hb_ HB.out)) : w.heap.size ≤ gb1320)); clear HB; have HB := n0_; have BK1320 := n1_; have GW1320 := n2_; have GE1320 := n3_; clear n0_ n1_ n2_ n3_; clear hb hbox hg) | ((with_reducible refine gate_dst (N := 2) rfl ?_); refine box_event ?hg (N := 2) ?hd (cs := #[.int .i64 0, .slice none 0 0, .slice none 0 0, .slice none 0 0]) (t := 26) ?hr ?_; (case hd => rfl); (case hg => rfl); (case hr => first | (go_simp; done) | (go_simp; rfl)); intro gb1321 hg w6 hbox hb; have n0_ := Aside0.mk (bb_ BK1320.out hb); have n1_ := Aside0.mk (below_step (hb_ HB.out) hb); have n2_ := Aside0.mk (hbox); have n3_ := Aside0.mk ((by rw [hg]; exact (below_size (hb_ HB.out)) : w.heap.size ≤ gb1321)); have n4_ := Aside0.mk ((by rw [hg]; exact (below_size (hb_ HB.out)) : w.heap.size ≤ gb1321)); have n5_ := Aside0.mk ((nl_ BK1320.out hg : gb1320 ≠ gb1321)); have n6_ := Aside0.mk ((ng_ BK1320.out hg : gb1321 ≠ gb1320)); clear BK1320; clear HB; have BK1320 := n0_; have HB := n1_; have BK1321 := n2_; have GW1321 := n3_; have GE1321 := n4_; have NB1320_1321 := n5_; have NB1321_1320 := n6_; clear n0_ n1_ n2_ n3_ n4_ n5_ n6_; clear hb hbox hg))
    have n0_ := Aside0.mk (blk_drew BK1320.out)
    have n1_ := Aside0.mk (blk_drew BK1321.out)
    have n2_ := Aside0.mk (below_drew1 HB.out)
    clear BK1320; clear BK1321
    clear HB
    have BK1320 := n0_
    have BK1321 := n1_
    have HB := n2_
    clear n0_ n1_ n2_
    refine start_ (n := 16) (S := fun w' => w'.cell? ⟨gb1320, 0, none⟩ = some (.int .i64 a0_0) ∧ w'.cell? ⟨gb1320, 1, none⟩ = some (.slice A0_1 l0_1.length c0_1) ∧ w'.cell? ⟨gb1320, 2, none⟩ = some (.slice A0_2 l0_2.length c0_2) ∧ w'.cell? ⟨gb1320, 3, none⟩ = some (.slice A0_3 l0_3.length c0_3)) (ds := []) #[false, false, false, false, false, false, false, false, false, false, false, false, false, false, false, false] (by kernel_rfl) rfl rfl ⟨(blk_cell BK1320.out 0).trans rfl, (blk_cell BK1320.out 1).trans rfl, (blk_cell BK1320.out 2).trans rfl, (blk_cell BK1320.out 3).trans rfl⟩ (fun hHeld => ?_); refine with_tabW spec_l5Copy.tab1 spec_l5Copy.bits1 (fun HT_ HW_ => ?_)
    generalize w6.drew = w7 at BK1320 BK1321 HB hHeld ⊢
    refine pI_ 0 3 HT_ #[true, false, false, false, false, false, false, false, false, false, false, false, false, false, false, false] rfl rfl ?_
    refine pI_ 3 6 HT_ #[true, false, false, true, false, false, false, false, false, false, false, false, false, false, false, false] rfl rfl ?_
    refine pI_ 7 10 HT_ #[true, false, false, true, false, false, false, true, false, false, false, false, false, false, false, false] rfl rfl ?_
    refine pI_ 11 14 HT_ #[true, false, false, true, false, false, false, true, false, false, false, true, false, false, false, false] rfl rfl ?_
    refine take_ (i := 1) (N := some 4) (v := ?_) (a' := ?_) #[true, true, false, true, false, false, false, true, false, false, false, true, false, false, false, false] rfl rfl (take_ofW HT_.out HW_.out (by kernel_rfl)) (fun _ _ _ h => h) (Or.inl ⟨by rfl, ?_⟩) hHeld ?_ ?_
    rotate_left
    ·
     rintro w' ⟨s0, s1, s2, s3⟩
     go_simp
     with_reducible rfl
    rotate_left; (focus simp only [Act.put, List.setIfInBounds_toArray, List.set_cons_zero, List.set_cons_succ, i64_w, i32_w]; rfl)
    refine take_ (i := 4) (N := some 7) (v := ?_) (a' := ?_) #[true, true, false, true, true, false, false, true, false, false, false, true, false, false, false, false] rfl rfl (take_ofW HT_.out HW_.out (by kernel_rfl)) (fun _ _ _ h => h) (Or.inl ⟨by rfl, ?_⟩) hHeld ?_ ?_
    rotate_left
    ·
     rintro w' ⟨s0, s1, s2, s3⟩
     go_simp
     with_reducible rfl
    rotate_left; (focus simp only [Act.put, List.setIfInBounds_toArray, List.set_cons_zero, List.set_cons_succ, i64_w, i32_w]; rfl)
    refine take_ (i := 8) (N := some 11) (v := ?_) (a' := ?_) #[true, true, false, true, true, false, false, true, true, false, false, true, false, false, false, false] rfl rfl (take_ofW HT_.out HW_.out (by kernel_rfl)) (fun _ _ _ h => h) (Or.inl ⟨by rfl, ?_⟩) hHeld ?_ ?_
    rotate_left
    ·
     rintro w' ⟨s0, s1, s2, s3⟩
     go_simp
     with_reducible rfl
    rotate_left; (focus simp only [Act.put, List.setIfInBounds_toArray, List.set_cons_zero, List.set_cons_succ, i64_w, i32_w]; rfl)
    refine take_ (i := 12) (N := some 15) (v := ?_) (a' := ?_) #[true, true, false, true, true, false, false, true, true, false, false, true, true, false, false, false] rfl rfl (take_ofW HT_.out HW_.out (by kernel_rfl)) (fun _ _ _ h => h) (Or.inl ⟨by rfl, ?_⟩) hHeld ?_ ?_
    rotate_left
    ·
     rintro w' ⟨s0, s1, s2, s3⟩
     go_simp
     with_reducible rfl
    rotate_left; (focus simp only [Act.put, List.setIfInBounds_toArray, List.set_cons_zero, List.set_cons_succ, i64_w, i32_w]; rfl)
    refine join_ (σ := Value × Value × Value × Value × Value) 3 spec_l5Copy.m0 (fun s_ => [(5, s_.1), (8, s_.2.1), (9, s_.2.2.1), (12, s_.2.2.2.1), (13, s_.2.2.2.2)]) (fun s_ w' => (w'.cell? ⟨gb1320, 0, none⟩ = some (.int .i64 a0_0) ∧ w'.cell? ⟨gb1320, 1, none⟩ = some (.slice A0_1 l0_1.length c0_1) ∧ w'.cell? ⟨gb1320, 2, none⟩ = some (.slice A0_2 l0_2.length c0_2) ∧ w'.cell? ⟨gb1320, 3, none⟩ = some (.slice A0_3 l0_3.length c0_3)) ∧ (Kd.R (Kd.int .i64) 3 w' w.heap.size (fun k_ => some k_ ≠ (s_.2.2.2.1 : Value).ownBlock ∧ some k_ ≠ (s_.2.2.2.2 : Value).ownBlock) s_.2.1 y1325) ∧ (Kd.R (Kd.int .i64) 3 w' w.heap.size (fun k_ => some k_ ≠ (s_.2.1 : Value).ownBlock ∧ some k_ ≠ (s_.2.2.2.2 : Value).ownBlock) s_.2.2.2.1 y1331) ∧ (Kd.R (Kd.int .i64) 3 w' w.heap.size (fun k_ => some k_ ≠ (s_.2.1 : Value).ownBlock ∧ some k_ ≠ (s_.2.2.2.1 : Value).ownBlock) s_.2.2.2.2 y1334) ∧ (w'.heap[gb1320]? = some (.cells #[.int .i64 a0_0, .slice A0_1 l0_1.length c0_1, .slice A0_2 l0_2.length c0_2, .slice A0_3 l0_3.length c0_3] 26 (0, 0))) ∧ (w'.heap[gb1321]? = some (.cells #[.int .i64 0, .slice none 0 0, .slice none 0 0, .slice none 0 0] 26 (0, 0))) ∧ (Below w.heap.size w w')) ?_ ?_
    rotate_left
    ·
     intro hJ2_5_6_9_10
     refine join_ (σ := Value × Value × Value × Value) 4 spec_l5Copy.m1 (fun s_ => [(5, s_.1), (8, s_.2.1), (9, s_.2.2.1), (12, s_.2.2.2)]) (fun s_ w' => (w'.cell? ⟨gb1320, 0, none⟩ = some (.int .i64 a0_0) ∧ w'.cell? ⟨gb1320, 1, none⟩ = some (.slice A0_1 l0_1.length c0_1) ∧ w'.cell? ⟨gb1320, 2, none⟩ = some (.slice A0_2 l0_2.length c0_2) ∧ w'.cell? ⟨gb1320, 3, none⟩ = some (.slice A0_3 l0_3.length c0_3)) ∧ (Kd.R (Kd.int .i64) 3 w' w.heap.size (fun k_ => some k_ ≠ (s_.2.2.2 : Value).ownBlock) s_.2.1 y1325) ∧ (Kd.R (Kd.int .i64) 3 w' w.heap.size (fun k_ => some k_ ≠ (s_.2.1 : Value).ownBlock) s_.2.2.2 y1331) ∧ (w'.heap[gb1320]? = some (.cells #[.int .i64 a0_0, .slice A0_1 l0_1.length c0_1, .slice A0_2 l0_2.length c0_2, .slice A0_3 l0_3.length c0_3] 26 (0, 0))) ∧ (w'.heap[gb1321]? = some (.cells #[.int .i64 0, .slice none 0 0, .slice none 0 0, .slice none 0 0] 26 (0, 0))) ∧ (Below w.heap.size w w')) ?_ ?_
     rotate_left
     ·
      intro hJ2_5_6_9
      refine join_ (σ := Value × Value × Value × Value) 4 spec_l5Copy.m2 (fun s_ => [(5, s_.1), (8, s_.2.1), (9, s_.2.2.1), (13, s_.2.2.2)]) (fun s_ w' => (w'.cell? ⟨gb1320, 0, none⟩ = some (.int .i64 a0_0) ∧ w'.cell? ⟨gb1320, 1, none⟩ = some (.slice A0_1 l0_1.length c0_1) ∧ w'.cell? ⟨gb1320, 2, none⟩ = some (.slice A0_2 l0_2.length c0_2) ∧ w'.cell? ⟨gb1320, 3, none⟩ = some (.slice A0_3 l0_3.length c0_3)) ∧ (Kd.R (Kd.int .i64) 3 w' w.heap.size (fun k_ => some k_ ≠ (s_.2.2.1 : Value).ownBlock ∧ some k_ ≠ (s_.2.2.2 : Value).ownBlock) s_.2.1 y1325) ∧ (Kd.R (Kd.int .i64) 3 w' w.heap.size (fun k_ => some k_ ≠ (s_.2.1 : Value).ownBlock ∧ some k_ ≠ (s_.2.2.2 : Value).ownBlock) s_.2.2.1 y1328) ∧ (Kd.R (Kd.int .i64) 3 w' w.heap.size (fun k_ => some k_ ≠ (s_.2.1 : Value).ownBlock ∧ some k_ ≠ (s_.2.2.1 : Value).ownBlock) s_.2.2.2 y1334) ∧ (w'.heap[gb1320]? = some (.cells #[.int .i64 a0_0, .slice A0_1 l0_1.length c0_1, .slice A0_2 l0_2.length c0_2, .slice A0_3 l0_3.length c0_3] 26 (0, 0))) ∧ (w'.heap[gb1321]? = some (.cells #[.int .i64 0, .slice none 0 0, .slice none 0 0, .slice none 0 0] 26 (0, 0))) ∧ (Below w.heap.size w w')) ?_ ?_
      rotate_left
      ·
       intro hJ2_5_6_10
       refine join_ (σ := Value × Value × Value) 5 spec_l5Copy.m3 (fun s_ => [(5, s_.1), (8, s_.2.1), (9, s_.2.2)]) (fun s_ w' => (w'.cell? ⟨gb1320, 0, none⟩ = some (.int .i64 a0_0) ∧ w'.cell? ⟨gb1320, 1, none⟩ = some (.slice A0_1 l0_1.length c0_1) ∧ w'.cell? ⟨gb1320, 2, none⟩ = some (.slice A0_2 l0_2.length c0_2) ∧ w'.cell? ⟨gb1320, 3, none⟩ = some (.slice A0_3 l0_3.length c0_3)) ∧ (Kd.R (Kd.int .i64) 3 w' w.heap.size (fun k_ => some k_ ≠ (s_.2.2 : Value).ownBlock) s_.2.1 y1325) ∧ (Kd.R (Kd.int .i64) 3 w' w.heap.size (fun k_ => some k_ ≠ (s_.2.1 : Value).ownBlock) s_.2.2 y1328) ∧ (w'.heap[gb1320]? = some (.cells #[.int .i64 a0_0, .slice A0_1 l0_1.length c0_1, .slice A0_2 l0_2.length c0_2, .slice A0_3 l0_3.length c0_3] 26 (0, 0))) ∧ (w'.heap[gb1321]? = some (.cells #[.int .i64 0, .slice none 0 0, .slice none 0 0, .slice none 0 0] 26 (0, 0))) ∧ (Below w.heap.size w w')) ?_ ?_
       rotate_left
       ·
        intro hJ2_5_6
        refine join_ (σ := Value × Value × Value) 5 spec_l5Copy.m4 (fun s_ => [(5, s_.1), (8, s_.2.1), (13, s_.2.2)]) (fun s_ w' => (w'.cell? ⟨gb1320, 0, none⟩ = some (.int .i64 a0_0) ∧ w'.cell? ⟨gb1320, 1, none⟩ = some (.slice A0_1 l0_1.length c0_1) ∧ w'.cell? ⟨gb1320, 2, none⟩ = some (.slice A0_2 l0_2.length c0_2) ∧ w'.cell? ⟨gb1320, 3, none⟩ = some (.slice A0_3 l0_3.length c0_3)) ∧ (Kd.R (Kd.int .i64) 3 w' w.heap.size (fun k_ => some k_ ≠ (s_.2.2 : Value).ownBlock) s_.2.1 y1325) ∧ (Kd.R (Kd.int .i64) 3 w' w.heap.size (fun k_ => some k_ ≠ (s_.2.1 : Value).ownBlock) s_.2.2 y1334) ∧ (w'.heap[gb1320]? = some (.cells #[.int .i64 a0_0, .slice A0_1 l0_1.length c0_1, .slice A0_2 l0_2.length c0_2, .slice A0_3 l0_3.length c0_3] 26 (0, 0))) ∧ (w'.heap[gb1321]? = some (.cells #[.int .i64 0, .slice none 0 0, .slice none 0 0, .slice none 0 0] 26 (0, 0))) ∧ (Below w.heap.size w w')) ?_ ?_
        rotate_left
        ·
         intro hJ2_5_10
         refine join_ (σ := Value × Value × Value) 5 spec_l5Copy.m5 (fun s_ => [(5, s_.1), (9, s_.2.1), (13, s_.2.2)]) (fun s_ w' => (w'.cell? ⟨gb1320, 0, none⟩ = some (.int .i64 a0_0) ∧ w'.cell? ⟨gb1320, 1, none⟩ = some (.slice A0_1 l0_1.length c0_1) ∧ w'.cell? ⟨gb1320, 2, none⟩ = some (.slice A0_2 l0_2.length c0_2) ∧ w'.cell? ⟨gb1320, 3, none⟩ = some (.slice A0_3 l0_3.length c0_3)) ∧ (Kd.R (Kd.int .i64) 3 w' w.heap.size (fun k_ => some k_ ≠ (s_.2.1 : Value).ownBlock ∧ some k_ ≠ (s_.2.2 : Value).ownBlock) s_.1 y1322) ∧ (Kd.R (Kd.int .i64) 3 w' w.heap.size (fun k_ => some k_ ≠ (s_.1 : Value).ownBlock ∧ some k_ ≠ (s_.2.2 : Value).ownBlock) s_.2.1 y1328) ∧ (Kd.R (Kd.int .i64) 3 w' w.heap.size (fun k_ => some k_ ≠ (s_.1 : Value).ownBlock ∧ some k_ ≠ (s_.2.1 : Value).ownBlock) s_.2.2 y1334) ∧ (w'.heap[gb1320]? = some (.cells #[.int .i64 a0_0, .slice A0_1 l0_1.length c0_1, .slice A0_2 l0_2.length c0_2, .slice A0_3 l0_3.length c0_3] 26 (0, 0))) ∧ (w'.heap[gb1321]? = some (.cells #[.int .i64 0, .slice none 0 0, .slice none 0 0, .slice none 0 0] 26 (0, 0))) ∧ (Below w.heap.size w w')) ?_ ?_
         rotate_left
         ·
          intro hJ2_6_10
          refine join_ (σ := Value × Value) 6 spec_l5Copy.m6 (fun s_ => [(5, s_.1), (8, s_.2)]) (fun s_ w' => (w'.cell? ⟨gb1320, 0, none⟩ = some (.int .i64 a0_0) ∧ w'.cell? ⟨gb1320, 1, none⟩ = some (.slice A0_1 l0_1.length c0_1) ∧ w'.cell? ⟨gb1320, 2, none⟩ = some (.slice A0_2 l0_2.length c0_2) ∧ w'.cell? ⟨gb1320, 3, none⟩ = some (.slice A0_3 l0_3.length c0_3)) ∧ (Kd.R (Kd.int .i64) 3 w' w.heap.size (fun _ => True) s_.2 y1325) ∧ (w'.heap[gb1320]? = some (.cells #[.int .i64 a0_0, .slice A0_1 l0_1.length c0_1, .slice A0_2 l0_2.length c0_2, .slice A0_3 l0_3.length c0_3] 26 (0, 0))) ∧ (w'.heap[gb1321]? = some (.cells #[.int .i64 0, .slice none 0 0, .slice none 0 0, .slice none 0 0] 26 (0, 0))) ∧ (Below w.heap.size w w')) ?_ ?_
          rotate_left
          ·
           intro hJ2_5
           refine join_ (σ := Value × Value) 6 spec_l5Copy.m7 (fun s_ => [(5, s_.1), (9, s_.2)]) (fun s_ w' => (w'.cell? ⟨gb1320, 0, none⟩ = some (.int .i64 a0_0) ∧ w'.cell? ⟨gb1320, 1, none⟩ = some (.slice A0_1 l0_1.length c0_1) ∧ w'.cell? ⟨gb1320, 2, none⟩ = some (.slice A0_2 l0_2.length c0_2) ∧ w'.cell? ⟨gb1320, 3, none⟩ = some (.slice A0_3 l0_3.length c0_3)) ∧ (Kd.R (Kd.int .i64) 3 w' w.heap.size (fun k_ => some k_ ≠ (s_.2 : Value).ownBlock) s_.1 y1322) ∧ (Kd.R (Kd.int .i64) 3 w' w.heap.size (fun k_ => some k_ ≠ (s_.1 : Value).ownBlock) s_.2 y1328) ∧ (w'.heap[gb1320]? = some (.cells #[.int .i64 a0_0, .slice A0_1 l0_1.length c0_1, .slice A0_2 l0_2.length c0_2, .slice A0_3 l0_3.length c0_3] 26 (0, 0))) ∧ (w'.heap[gb1321]? = some (.cells #[.int .i64 0, .slice none 0 0, .slice none 0 0, .slice none 0 0] 26 (0, 0))) ∧ (Below w.heap.size w w')) ?_ ?_
           rotate_left
           ·
            intro hJ2_6
            refine join_ (σ := Value × Value) 6 spec_l5Copy.m8 (fun s_ => [(5, s_.1), (13, s_.2)]) (fun s_ w' => (w'.cell? ⟨gb1320, 0, none⟩ = some (.int .i64 a0_0) ∧ w'.cell? ⟨gb1320, 1, none⟩ = some (.slice A0_1 l0_1.length c0_1) ∧ w'.cell? ⟨gb1320, 2, none⟩ = some (.slice A0_2 l0_2.length c0_2) ∧ w'.cell? ⟨gb1320, 3, none⟩ = some (.slice A0_3 l0_3.length c0_3)) ∧ (Kd.R (Kd.int .i64) 3 w' w.heap.size (fun k_ => some k_ ≠ (s_.2 : Value).ownBlock) s_.1 y1322) ∧ (Kd.R (Kd.int .i64) 3 w' w.heap.size (fun k_ => some k_ ≠ (s_.1 : Value).ownBlock) s_.2 y1334) ∧ (w'.heap[gb1320]? = some (.cells #[.int .i64 a0_0, .slice A0_1 l0_1.length c0_1, .slice A0_2 l0_2.length c0_2, .slice A0_3 l0_3.length c0_3] 26 (0, 0))) ∧ (w'.heap[gb1321]? = some (.cells #[.int .i64 0, .slice none 0 0, .slice none 0 0, .slice none 0 0] 26 (0, 0))) ∧ (Below w.heap.size w w')) ?_ ?_
            rotate_left
            ·
             intro hJ2_10
             refine join_ (σ := Value × Value) 6 spec_l5Copy.m9 (fun s_ => [(9, s_.1), (13, s_.2)]) (fun s_ w' => (w'.cell? ⟨gb1320, 0, none⟩ = some (.int .i64 a0_0) ∧ w'.cell? ⟨gb1320, 1, none⟩ = some (.slice A0_1 l0_1.length c0_1) ∧ w'.cell? ⟨gb1320, 2, none⟩ = some (.slice A0_2 l0_2.length c0_2) ∧ w'.cell? ⟨gb1320, 3, none⟩ = some (.slice A0_3 l0_3.length c0_3)) ∧ (Kd.R (Kd.int .i64) 3 w' w.heap.size (fun k_ => some k_ ≠ (s_.2 : Value).ownBlock) s_.1 y1328) ∧ (Kd.R (Kd.int .i64) 3 w' w.heap.size (fun k_ => some k_ ≠ (s_.1 : Value).ownBlock) s_.2 y1334) ∧ (w'.heap[gb1320]? = some (.cells #[.int .i64 a0_0, .slice A0_1 l0_1.length c0_1, .slice A0_2 l0_2.length c0_2, .slice A0_3 l0_3.length c0_3] 26 (0, 0))) ∧ (w'.heap[gb1321]? = some (.cells #[.int .i64 0, .slice none 0 0, .slice none 0 0, .slice none 0 0] 26 (0, 0))) ∧ (Below w.heap.size w w')) ?_ ?_
             rotate_left
             ·
              intro hJ6_10
              refine join_ (σ := Value) 7 spec_l5Copy.m10 (fun s_ => [(5, s_)]) (fun s_ w' => (w'.cell? ⟨gb1320, 0, none⟩ = some (.int .i64 a0_0) ∧ w'.cell? ⟨gb1320, 1, none⟩ = some (.slice A0_1 l0_1.length c0_1) ∧ w'.cell? ⟨gb1320, 2, none⟩ = some (.slice A0_2 l0_2.length c0_2) ∧ w'.cell? ⟨gb1320, 3, none⟩ = some (.slice A0_3 l0_3.length c0_3)) ∧ (Kd.R (Kd.int .i64) 3 w' w.heap.size (fun _ => True) s_ y1322) ∧ (w'.heap[gb1320]? = some (.cells #[.int .i64 a0_0, .slice A0_1 l0_1.length c0_1, .slice A0_2 l0_2.length c0_2, .slice A0_3 l0_3.length c0_3] 26 (0, 0))) ∧ (w'.heap[gb1321]? = some (.cells #[.int .i64 0, .slice none 0 0, .slice none 0 0, .slice none 0 0] 26 (0, 0))) ∧ (Below w.heap.size w w')) ?_ ?_
              rotate_left
              ·
               intro hJ2
               refine join_ (σ := Value) 7 spec_l5Copy.m11 (fun s_ => [(9, s_)]) (fun s_ w' => (w'.cell? ⟨gb1320, 0, none⟩ = some (.int .i64 a0_0) ∧ w'.cell? ⟨gb1320, 1, none⟩ = some (.slice A0_1 l0_1.length c0_1) ∧ w'.cell? ⟨gb1320, 2, none⟩ = some (.slice A0_2 l0_2.length c0_2) ∧ w'.cell? ⟨gb1320, 3, none⟩ = some (.slice A0_3 l0_3.length c0_3)) ∧ (Kd.R (Kd.int .i64) 3 w' w.heap.size (fun _ => True) s_ y1328) ∧ (w'.heap[gb1320]? = some (.cells #[.int .i64 a0_0, .slice A0_1 l0_1.length c0_1, .slice A0_2 l0_2.length c0_2, .slice A0_3 l0_3.length c0_3] 26 (0, 0))) ∧ (w'.heap[gb1321]? = some (.cells #[.int .i64 0, .slice none 0 0, .slice none 0 0, .slice none 0 0] 26 (0, 0))) ∧ (Below w.heap.size w w')) ?_ ?_
               rotate_left
               ·
                intro hJ6
                refine join_ (σ := Value) 7 spec_l5Copy.m12 (fun s_ => [(13, s_)]) (fun s_ w' => (w'.cell? ⟨gb1320, 0, none⟩ = some (.int .i64 a0_0) ∧ w'.cell? ⟨gb1320, 1, none⟩ = some (.slice A0_1 l0_1.length c0_1) ∧ w'.cell? ⟨gb1320, 2, none⟩ = some (.slice A0_2 l0_2.length c0_2) ∧ w'.cell? ⟨gb1320, 3, none⟩ = some (.slice A0_3 l0_3.length c0_3)) ∧ (Kd.R (Kd.int .i64) 3 w' w.heap.size (fun _ => True) s_ y1334) ∧ (w'.heap[gb1320]? = some (.cells #[.int .i64 a0_0, .slice A0_1 l0_1.length c0_1, .slice A0_2 l0_2.length c0_2, .slice A0_3 l0_3.length c0_3] 26 (0, 0))) ∧ (w'.heap[gb1321]? = some (.cells #[.int .i64 0, .slice none 0 0, .slice none 0 0, .slice none 0 0] 26 (0, 0))) ∧ (Below w.heap.size w w')) ?_ ?_
                rotate_left
                ·
                 intro hJ10
                 refine three_ (i := 2) (j := 6) (k := 10) (Ni := some 5) (Nj := some 9) (Nk := some 13) spec_l5Copy.m10 spec_l5Copy.m11 spec_l5Copy.m12 rfl rfl rfl rfl rfl rfl (three_of HT_.out (by kernel_rfl)) (by decide) (by decide) (by decide) (fun K hK => ?_) (fun K hK => ?_) (fun K hK => ?_)
                 ·
                  skip
                  refine Kd.R_lit_step (Kd.int .i64) _ 3 ?hg (N := 5) ?hd (xs := ([] : List Int)) (inner := []) (ok := fun _ => True) (okp := fun _ => True) ?hr ?hp (fun _ hk => hk) trivial (Below.refl _ _) (Nat.le_refl _) (by simp) ?_; (case hd => rfl); (case hg => rfl); (case hr => first | (go_simp; done) | (go_simp; rfl)); (case hp => exact (Reps.none _ _))
                  intro v1323 w8 ho9 hb hg_ hnew_
                  clear hg_ hnew_
                  (first | rw [← Ny1322.out] at ho9 | (simp only [Int.reduceToNat] at ho9; rw [← Ny1322.out] at ho9))
                  have n0_ := Aside0.mk (Kd.R_lower ho9 (below_size (hb_ HB.out)))
                  have n1_ := Aside0.mk (bb_ BK1320.out hb)
                  have n2_ := Aside0.mk (bb_ BK1321.out hb)
                  have n3_ := Aside0.mk (below_step (hb_ HB.out) hb)
                  clear BK1320; clear BK1321
                  clear HB
                  have HO1324 := n0_
                  have BK1320 := n1_
                  have BK1321 := n2_
                  have HB := n3_
                  clear n0_ n1_ n2_ n3_; clear hb ho9
                  refine hK.out _ _ ⟨(blk_cell BK1320.out 0).trans rfl, (blk_cell BK1320.out 1).trans rfl, (blk_cell BK1320.out 2).trans rfl, (blk_cell BK1320.out 3).trans rfl⟩ (fun hHeld => ?_)
                  clear hK K
                  refine norm_ (a' := ?_) ?_ ?_
                  rotate_left
                  ·
                   show Act.put _ (some 5) _ = _
                   simp only [Act.put, List.setIfInBounds_toArray, List.set_cons_zero, List.set_cons_succ, i64_w, i32_w]
                   rfl
                  exact norm_ (by first | (simp only [putAll, Act.put, List.setIfInBounds_toArray, List.set_cons_zero, List.set_cons_succ]; done) | (simp only [putAll, Act.put, List.setIfInBounds_toArray, List.set_cons_zero, List.set_cons_succ]; rfl)) (hJ2 (v1323) _ ⟨hHeld, (rq_ HO1324.out), (bq_ BK1320.out), (bq_ BK1321.out), (hb_ HB.out)⟩)
                 ·
                  skip
                  refine Kd.R_lit_step (Kd.int .i64) _ 3 ?hg (N := 9) ?hd (xs := ([] : List Int)) (inner := []) (ok := fun _ => True) (okp := fun _ => True) ?hr ?hp (fun _ hk => hk) trivial (Below.refl _ _) (Nat.le_refl _) (by simp) ?_; (case hd => rfl); (case hg => rfl); (case hr => first | (go_simp; done) | (go_simp; rfl)); (case hp => exact (Reps.none _ _))
                  intro v1329 w8 ho9 hb hg_ hnew_
                  clear hg_ hnew_
                  (first | rw [← Ny1328.out] at ho9 | (simp only [Int.reduceToNat] at ho9; rw [← Ny1328.out] at ho9))
                  have n0_ := Aside0.mk (Kd.R_lower ho9 (below_size (hb_ HB.out)))
                  have n1_ := Aside0.mk (bb_ BK1320.out hb)
                  have n2_ := Aside0.mk (bb_ BK1321.out hb)
                  have n3_ := Aside0.mk (below_step (hb_ HB.out) hb)
                  clear BK1320; clear BK1321
                  clear HB
                  have HO1330 := n0_
                  have BK1320 := n1_
                  have BK1321 := n2_
                  have HB := n3_
                  clear n0_ n1_ n2_ n3_; clear hb ho9
                  refine hK.out _ _ ⟨(blk_cell BK1320.out 0).trans rfl, (blk_cell BK1320.out 1).trans rfl, (blk_cell BK1320.out 2).trans rfl, (blk_cell BK1320.out 3).trans rfl⟩ (fun hHeld => ?_)
                  clear hK K
                  refine norm_ (a' := ?_) ?_ ?_
                  rotate_left
                  ·
                   show Act.put _ (some 9) _ = _
                   simp only [Act.put, List.setIfInBounds_toArray, List.set_cons_zero, List.set_cons_succ, i64_w, i32_w]
                   rfl
                  exact norm_ (by first | (simp only [putAll, Act.put, List.setIfInBounds_toArray, List.set_cons_zero, List.set_cons_succ]; done) | (simp only [putAll, Act.put, List.setIfInBounds_toArray, List.set_cons_zero, List.set_cons_succ]; rfl)) (hJ6 (v1329) _ ⟨hHeld, (rq_ HO1330.out), (bq_ BK1320.out), (bq_ BK1321.out), (hb_ HB.out)⟩)
                 ·
                  skip
                  refine Kd.R_lit_step (Kd.int .i64) _ 3 ?hg (N := 13) ?hd (xs := ([] : List Int)) (inner := []) (ok := fun _ => True) (okp := fun _ => True) ?hr ?hp (fun _ hk => hk) trivial (Below.refl _ _) (Nat.le_refl _) (by simp) ?_; (case hd => rfl); (case hg => rfl); (case hr => first | (go_simp; done) | (go_simp; rfl)); (case hp => exact (Reps.none _ _))
                  intro v1335 w8 ho9 hb hg_ hnew_
                  clear hg_ hnew_
                  (first | rw [← Ny1334.out] at ho9 | (simp only [Int.reduceToNat] at ho9; rw [← Ny1334.out] at ho9))
                  have n0_ := Aside0.mk (Kd.R_lower ho9 (below_size (hb_ HB.out)))
                  have n1_ := Aside0.mk (bb_ BK1320.out hb)
                  have n2_ := Aside0.mk (bb_ BK1321.out hb)
                  have n3_ := Aside0.mk (below_step (hb_ HB.out) hb)
                  clear BK1320; clear BK1321
                  clear HB
                  have HO1336 := n0_
                  have BK1320 := n1_
                  have BK1321 := n2_
                  have HB := n3_
                  clear n0_ n1_ n2_ n3_; clear hb ho9
                  refine hK.out _ _ ⟨(blk_cell BK1320.out 0).trans rfl, (blk_cell BK1320.out 1).trans rfl, (blk_cell BK1320.out 2).trans rfl, (blk_cell BK1320.out 3).trans rfl⟩ (fun hHeld => ?_)
                  clear hK K
                  refine norm_ (a' := ?_) ?_ ?_
                  rotate_left
                  ·
                   show Act.put _ (some 13) _ = _
                   simp only [Act.put, List.setIfInBounds_toArray, List.set_cons_zero, List.set_cons_succ, i64_w, i32_w]
                   rfl
                  exact norm_ (by first | (simp only [putAll, Act.put, List.setIfInBounds_toArray, List.set_cons_zero, List.set_cons_succ]; done) | (simp only [putAll, Act.put, List.setIfInBounds_toArray, List.set_cons_zero, List.set_cons_succ]; rfl)) (hJ10 (v1335) _ ⟨hHeld, (rq_ HO1336.out), (bq_ BK1320.out), (bq_ BK1321.out), (hb_ HB.out)⟩)
                ·
                 skip
                 rintro v1335 w10 ⟨hS_, h0_, h1_, h2_, h3_⟩
                 have n0_ : Aside0 (Kd.R (Kd.int .i64) 3 w10 w.heap.size (fun _ => True) v1335 y1334) := ⟨h0_⟩
                 have n1_ : Aside0 (w10.heap[gb1320]? = some (.cells #[.int .i64 a0_0, .slice A0_1 l0_1.length c0_1, .slice A0_2 l0_2.length c0_2, .slice A0_3 l0_3.length c0_3] 26 (0, 0))) := ⟨h1_⟩
                 have n2_ : Aside0 (w10.heap[gb1321]? = some (.cells #[.int .i64 0, .slice none 0 0, .slice none 0 0, .slice none 0 0] 26 (0, 0))) := ⟨h2_⟩
                 have n3_ : Aside0 (Below w.heap.size w w10) := ⟨h3_⟩
                 clear BK1320; clear BK1321
                 clear HB; clear h0_ h1_ h2_ h3_
                 have HO1336 := n0_
                 have BK1320 := n1_
                 have BK1321 := n2_
                 have HB := n3_
                 clear n0_ n1_ n2_ n3_
                 have hHeld : w10.cell? ⟨gb1320, 0, none⟩ = some (.int .i64 a0_0) ∧ w10.cell? ⟨gb1320, 1, none⟩ = some (.slice A0_1 l0_1.length c0_1) ∧ w10.cell? ⟨gb1320, 2, none⟩ = some (.slice A0_2 l0_2.length c0_2) ∧ w10.cell? ⟨gb1320, 3, none⟩ = some (.slice A0_3 l0_3.length c0_3) := hS_
                 refine norm_ (a' := ?_) ?_ ?_
                 rotate_left; (focus simp only [putAll, Act.put, List.setIfInBounds_toArray, List.set_cons_zero, List.set_cons_succ]; rfl)
                 refine two_ (i := 2) (j := 6) (Ni := some 5) (Nj := some 9) spec_l5Copy.m8 spec_l5Copy.m9 rfl rfl rfl rfl (two_of HT_.out (by kernel_rfl)) (by decide) (by decide) (fun K hK => ?_) (fun K hK => ?_)
                 ·
                  skip
                  refine Kd.R_lit_step (Kd.int .i64) _ 3 ?hg (N := 5) ?hd (xs := ([] : List Int)) (inner := []) (ok := fun _ => True) (okp := fun _ => True) ?hr ?hp (fun _ hk => hk) trivial (Below.refl _ _) (Nat.le_refl _) (by simp) ?_; (case hd => rfl); (case hg => rfl); (case hr => first | (go_simp; done) | (go_simp; rfl)); (case hp => exact (Reps.none _ _))
                  intro v1323 w11 ho12 hb hg_ hnew_
                  clear hg_ hnew_
                  (first | rw [← Ny1322.out] at ho12 | (simp only [Int.reduceToNat] at ho12; rw [← Ny1322.out] at ho12))
                  have n0_ := Aside0.mk (Kd.R_elder' (rq_ HO1336.out) (Kd.R_base ho12) hb)
                  have n1_ := Aside0.mk (Kd.R_lower (Kd.R_new' ho12 (Kd.R_lt (rq_ HO1336.out))) (below_size (hb_ HB.out)))
                  have n2_ := Aside0.mk (bb_ BK1320.out hb)
                  have n3_ := Aside0.mk (bb_ BK1321.out hb)
                  have n4_ := Aside0.mk (below_step (hb_ HB.out) hb)
                  clear HO1336; clear BK1320
                  clear BK1321; clear HB
                  have HO1336 := n0_
                  have HO1324 := n1_
                  have BK1320 := n2_
                  have BK1321 := n3_
                  have HB := n4_
                  clear n0_ n1_ n2_ n3_ n4_; clear hb ho12
                  refine hK.out _ _ ⟨(blk_cell BK1320.out 0).trans rfl, (blk_cell BK1320.out 1).trans rfl, (blk_cell BK1320.out 2).trans rfl, (blk_cell BK1320.out 3).trans rfl⟩ (fun hHeld => ?_)
                  clear hK K
                  refine norm_ (a' := ?_) ?_ ?_
                  rotate_left
                  ·
                   show Act.put _ (some 5) _ = _
                   simp only [Act.put, List.setIfInBounds_toArray, List.set_cons_zero, List.set_cons_succ, i64_w, i32_w]
                   rfl
                  exact norm_ (by first | (simp only [putAll, Act.put, List.setIfInBounds_toArray, List.set_cons_zero, List.set_cons_succ]; done) | (simp only [putAll, Act.put, List.setIfInBounds_toArray, List.set_cons_zero, List.set_cons_succ]; rfl)) (hJ2_10 (v1323, v1335) _ ⟨hHeld, (rm_ HO1324.out), (rm_ HO1336.out), (bq_ BK1320.out), (bq_ BK1321.out), (hb_ HB.out)⟩)
                 ·
                  skip
                  refine Kd.R_lit_step (Kd.int .i64) _ 3 ?hg (N := 9) ?hd (xs := ([] : List Int)) (inner := []) (ok := fun _ => True) (okp := fun _ => True) ?hr ?hp (fun _ hk => hk) trivial (Below.refl _ _) (Nat.le_refl _) (by simp) ?_; (case hd => rfl); (case hg => rfl); (case hr => first | (go_simp; done) | (go_simp; rfl)); (case hp => exact (Reps.none _ _))
                  intro v1329 w11 ho12 hb hg_ hnew_
                  clear hg_ hnew_
                  (first | rw [← Ny1328.out] at ho12 | (simp only [Int.reduceToNat] at ho12; rw [← Ny1328.out] at ho12))
                  have n0_ := Aside0.mk (Kd.R_elder' (rq_ HO1336.out) (Kd.R_base ho12) hb)
                  have n1_ := Aside0.mk (Kd.R_lower (Kd.R_new' ho12 (Kd.R_lt (rq_ HO1336.out))) (below_size (hb_ HB.out)))
                  have n2_ := Aside0.mk (bb_ BK1320.out hb)
                  have n3_ := Aside0.mk (bb_ BK1321.out hb)
                  have n4_ := Aside0.mk (below_step (hb_ HB.out) hb)
                  clear HO1336; clear BK1320
                  clear BK1321; clear HB
                  have HO1336 := n0_
                  have HO1330 := n1_
                  have BK1320 := n2_
                  have BK1321 := n3_
                  have HB := n4_
                  clear n0_ n1_ n2_ n3_ n4_; clear hb ho12
                  refine hK.out _ _ ⟨(blk_cell BK1320.out 0).trans rfl, (blk_cell BK1320.out 1).trans rfl, (blk_cell BK1320.out 2).trans rfl, (blk_cell BK1320.out 3).trans rfl⟩ (fun hHeld => ?_)
                  clear hK K
                  refine norm_ (a' := ?_) ?_ ?_
                  rotate_left
                  ·
                   show Act.put _ (some 9) _ = _
                   simp only [Act.put, List.setIfInBounds_toArray, List.set_cons_zero, List.set_cons_succ, i64_w, i32_w]
                   rfl
                  exact norm_ (by first | (simp only [putAll, Act.put, List.setIfInBounds_toArray, List.set_cons_zero, List.set_cons_succ]; done) | (simp only [putAll, Act.put, List.setIfInBounds_toArray, List.set_cons_zero, List.set_cons_succ]; rfl)) (hJ6_10 (v1329, v1335) _ ⟨hHeld, (rm_ HO1330.out), (rm_ HO1336.out), (bq_ BK1320.out), (bq_ BK1321.out), (hb_ HB.out)⟩)
               ·
                skip
                rintro v1329 w10 ⟨hS_, h0_, h1_, h2_, h3_⟩
                have n0_ : Aside0 (Kd.R (Kd.int .i64) 3 w10 w.heap.size (fun _ => True) v1329 y1328) := ⟨h0_⟩
                have n1_ : Aside0 (w10.heap[gb1320]? = some (.cells #[.int .i64 a0_0, .slice A0_1 l0_1.length c0_1, .slice A0_2 l0_2.length c0_2, .slice A0_3 l0_3.length c0_3] 26 (0, 0))) := ⟨h1_⟩
                have n2_ : Aside0 (w10.heap[gb1321]? = some (.cells #[.int .i64 0, .slice none 0 0, .slice none 0 0, .slice none 0 0] 26 (0, 0))) := ⟨h2_⟩
                have n3_ : Aside0 (Below w.heap.size w w10) := ⟨h3_⟩
                clear BK1320; clear BK1321
                clear HB; clear h0_ h1_ h2_ h3_
                have HO1330 := n0_
                have BK1320 := n1_
                have BK1321 := n2_
                have HB := n3_
                clear n0_ n1_ n2_ n3_
                have hHeld : w10.cell? ⟨gb1320, 0, none⟩ = some (.int .i64 a0_0) ∧ w10.cell? ⟨gb1320, 1, none⟩ = some (.slice A0_1 l0_1.length c0_1) ∧ w10.cell? ⟨gb1320, 2, none⟩ = some (.slice A0_2 l0_2.length c0_2) ∧ w10.cell? ⟨gb1320, 3, none⟩ = some (.slice A0_3 l0_3.length c0_3) := hS_
                refine norm_ (a' := ?_) ?_ ?_
                rotate_left; (focus simp only [putAll, Act.put, List.setIfInBounds_toArray, List.set_cons_zero, List.set_cons_succ]; rfl)
                refine two_ (i := 2) (j := 10) (Ni := some 5) (Nj := some 13) spec_l5Copy.m7 spec_l5Copy.m9 rfl rfl rfl rfl (two_of HT_.out (by kernel_rfl)) (by decide) (by decide) (fun K hK => ?_) (fun K hK => ?_)
                ·
                 skip
                 refine Kd.R_lit_step (Kd.int .i64) _ 3 ?hg (N := 5) ?hd (xs := ([] : List Int)) (inner := []) (ok := fun _ => True) (okp := fun _ => True) ?hr ?hp (fun _ hk => hk) trivial (Below.refl _ _) (Nat.le_refl _) (by simp) ?_; (case hd => rfl); (case hg => rfl); (case hr => first | (go_simp; done) | (go_simp; rfl)); (case hp => exact (Reps.none _ _))
                 intro v1323 w11 ho12 hb hg_ hnew_
                 clear hg_ hnew_
                 (first | rw [← Ny1322.out] at ho12 | (simp only [Int.reduceToNat] at ho12; rw [← Ny1322.out] at ho12))
                 have n0_ := Aside0.mk (Kd.R_elder' (rq_ HO1330.out) (Kd.R_base ho12) hb)
                 have n1_ := Aside0.mk (Kd.R_lower (Kd.R_new' ho12 (Kd.R_lt (rq_ HO1330.out))) (below_size (hb_ HB.out)))
                 have n2_ := Aside0.mk (bb_ BK1320.out hb)
                 have n3_ := Aside0.mk (bb_ BK1321.out hb)
                 have n4_ := Aside0.mk (below_step (hb_ HB.out) hb)
                 clear HO1330; clear BK1320
                 clear BK1321; clear HB
                 have HO1330 := n0_
                 have HO1324 := n1_
                 have BK1320 := n2_
                 have BK1321 := n3_
                 have HB := n4_
                 clear n0_ n1_ n2_ n3_ n4_; clear hb ho12
                 refine hK.out _ _ ⟨(blk_cell BK1320.out 0).trans rfl, (blk_cell BK1320.out 1).trans rfl, (blk_cell BK1320.out 2).trans rfl, (blk_cell BK1320.out 3).trans rfl⟩ (fun hHeld => ?_)
                 clear hK K
                 refine norm_ (a' := ?_) ?_ ?_
                 rotate_left
                 ·
                  show Act.put _ (some 5) _ = _
                  simp only [Act.put, List.setIfInBounds_toArray, List.set_cons_zero, List.set_cons_succ, i64_w, i32_w]
                  rfl
                 exact norm_ (by first | (simp only [putAll, Act.put, List.setIfInBounds_toArray, List.set_cons_zero, List.set_cons_succ]; done) | (simp only [putAll, Act.put, List.setIfInBounds_toArray, List.set_cons_zero, List.set_cons_succ]; rfl)) (hJ2_6 (v1323, v1329) _ ⟨hHeld, (rm_ HO1324.out), (rm_ HO1330.out), (bq_ BK1320.out), (bq_ BK1321.out), (hb_ HB.out)⟩)
                ·
                 skip
                 refine Kd.R_lit_step (Kd.int .i64) _ 3 ?hg (N := 13) ?hd (xs := ([] : List Int)) (inner := []) (ok := fun _ => True) (okp := fun _ => True) ?hr ?hp (fun _ hk => hk) trivial (Below.refl _ _) (Nat.le_refl _) (by simp) ?_; (case hd => rfl); (case hg => rfl); (case hr => first | (go_simp; done) | (go_simp; rfl)); (case hp => exact (Reps.none _ _))
                 intro v1335 w11 ho12 hb hg_ hnew_
                 clear hg_ hnew_
                 (first | rw [← Ny1334.out] at ho12 | (simp only [Int.reduceToNat] at ho12; rw [← Ny1334.out] at ho12))
                 have n0_ := Aside0.mk (Kd.R_elder' (rq_ HO1330.out) (Kd.R_base ho12) hb)
                 have n1_ := Aside0.mk (Kd.R_lower (Kd.R_new' ho12 (Kd.R_lt (rq_ HO1330.out))) (below_size (hb_ HB.out)))
                 have n2_ := Aside0.mk (bb_ BK1320.out hb)
                 have n3_ := Aside0.mk (bb_ BK1321.out hb)
                 have n4_ := Aside0.mk (below_step (hb_ HB.out) hb)
                 clear HO1330; clear BK1320
                 clear BK1321; clear HB
                 have HO1330 := n0_
                 have HO1336 := n1_
                 have BK1320 := n2_
                 have BK1321 := n3_
                 have HB := n4_
                 clear n0_ n1_ n2_ n3_ n4_; clear hb ho12
                 refine hK.out _ _ ⟨(blk_cell BK1320.out 0).trans rfl, (blk_cell BK1320.out 1).trans rfl, (blk_cell BK1320.out 2).trans rfl, (blk_cell BK1320.out 3).trans rfl⟩ (fun hHeld => ?_)
                 clear hK K
                 refine norm_ (a' := ?_) ?_ ?_
                 rotate_left
                 ·
                  show Act.put _ (some 13) _ = _
                  simp only [Act.put, List.setIfInBounds_toArray, List.set_cons_zero, List.set_cons_succ, i64_w, i32_w]
                  rfl
                 exact norm_ (by first | (simp only [putAll, Act.put, List.setIfInBounds_toArray, List.set_cons_zero, List.set_cons_succ]; done) | (simp only [putAll, Act.put, List.setIfInBounds_toArray, List.set_cons_zero, List.set_cons_succ]; rfl)) (hJ6_10 (v1329, v1335) _ ⟨hHeld, (rm_ HO1330.out), (rm_ HO1336.out), (bq_ BK1320.out), (bq_ BK1321.out), (hb_ HB.out)⟩)
              ·
               skip
               rintro v1323 w10 ⟨hS_, h0_, h1_, h2_, h3_⟩
               have n0_ : Aside0 (Kd.R (Kd.int .i64) 3 w10 w.heap.size (fun _ => True) v1323 y1322) := ⟨h0_⟩
               have n1_ : Aside0 (w10.heap[gb1320]? = some (.cells #[.int .i64 a0_0, .slice A0_1 l0_1.length c0_1, .slice A0_2 l0_2.length c0_2, .slice A0_3 l0_3.length c0_3] 26 (0, 0))) := ⟨h1_⟩
               have n2_ : Aside0 (w10.heap[gb1321]? = some (.cells #[.int .i64 0, .slice none 0 0, .slice none 0 0, .slice none 0 0] 26 (0, 0))) := ⟨h2_⟩
               have n3_ : Aside0 (Below w.heap.size w w10) := ⟨h3_⟩
               clear BK1320; clear BK1321
               clear HB; clear h0_ h1_ h2_ h3_
               have HO1324 := n0_
               have BK1320 := n1_
               have BK1321 := n2_
               have HB := n3_
               clear n0_ n1_ n2_ n3_
               have hHeld : w10.cell? ⟨gb1320, 0, none⟩ = some (.int .i64 a0_0) ∧ w10.cell? ⟨gb1320, 1, none⟩ = some (.slice A0_1 l0_1.length c0_1) ∧ w10.cell? ⟨gb1320, 2, none⟩ = some (.slice A0_2 l0_2.length c0_2) ∧ w10.cell? ⟨gb1320, 3, none⟩ = some (.slice A0_3 l0_3.length c0_3) := hS_
               refine norm_ (a' := ?_) ?_ ?_
               rotate_left; (focus simp only [putAll, Act.put, List.setIfInBounds_toArray, List.set_cons_zero, List.set_cons_succ]; rfl)
               refine three_ (i := 5) (j := 6) (k := 10) (Ni := some 8) (Nj := some 9) (Nk := some 13) spec_l5Copy.m6 spec_l5Copy.m7 spec_l5Copy.m8 rfl rfl rfl rfl rfl rfl (three_of HT_.out (by kernel_rfl)) (by decide) (by decide) (by decide) (fun K hK => ?_) (fun K hK => ?_) (fun K hK => ?_)
               ·
                skip
                refine Kd.R_append_rows_step (Kd.int .i64) (w0 := w) w.heap.size (by rfl) (.tmp 5) (.tmp 7) 24 3 (.int .i64 0) 8 rfl Try.underlying24 info3 rfl (by decide) (by omega) v1323 y1322 l0_1 _ _ _ (fun _ => True) (fun _ => False) rfl rfl ?aO ?aR (fun _ _ h => h) (fun _ h => h.elim) ?aF ?aB ?aS ?aL ?_
                (case aR => repeat (first | exact (Kd.C_below HR0_1.out HB.out) | (with_reducible refine Kd.C_alloc ?_ _) | (with_reducible refine Kd.C_drewN ?_ _) | (with_reducible refine Kd.C_drew ?_)))
                (case aB => exact (hb_ HB.out))
                (case aF => exact (fun _ _ => trivial))
                (case aO => exact (rq_ HO1324.out))
                (case aS => exact (below_size (hb_ HB.out)))
                (case aL => have := LMc2.out; omega)
                intro v1326 w11 ho hb hg hat
                rw [← Ny1325.out] at ho
                have n0_ := Aside0.mk (blk_grown (g := gb1320) (o := .cells #[.int .i64 a0_0, .slice A0_1 l0_1.length c0_1, .slice A0_2 l0_2.length c0_2, .slice A0_3 l0_3.length c0_3] 26 (0, 0)) (bq_ BK1320.out) hg (Kd.R_ne HO1324.out BK1320.out (by decide)))
                have n1_ := Aside0.mk (blk_grown (g := gb1321) (o := .cells #[.int .i64 0, .slice none 0 0, .slice none 0 0, .slice none 0 0] 26 (0, 0)) (bq_ BK1321.out) hg (Kd.R_ne HO1324.out BK1321.out (by decide)))
                have n2_ := Aside0.mk (hb)
                have n3_ := Aside0.mk (ho)
                clear BK1320; clear BK1321
                clear HB; clear HO1324
                have BK1320 := n0_
                have BK1321 := n1_
                have HB := n2_
                have HO1327 := n3_
                clear n0_ n1_ n2_ n3_; clear ho hb hg hat
                refine hK.out _ _ ⟨(blk_cell BK1320.out 0).trans rfl, (blk_cell BK1320.out 1).trans rfl, (blk_cell BK1320.out 2).trans rfl, (blk_cell BK1320.out 3).trans rfl⟩ (fun hHeld => ?_)
                clear hK K
                refine norm_ (a' := ?_) ?_ ?_
                rotate_left
                ·
                 show Act.put _ (some 8) _ = _
                 simp only [Act.put, List.setIfInBounds_toArray, List.set_cons_zero, List.set_cons_succ, i64_w, i32_w]
                 rfl
                exact norm_ (by first | (simp only [putAll, Act.put, List.setIfInBounds_toArray, List.set_cons_zero, List.set_cons_succ]; done) | (simp only [putAll, Act.put, List.setIfInBounds_toArray, List.set_cons_zero, List.set_cons_succ]; rfl)) (hJ2_5 (v1323, v1326) _ ⟨hHeld, (rq_ HO1327.out), (bq_ BK1320.out), (bq_ BK1321.out), (hb_ HB.out)⟩)
               ·
                skip
                refine Kd.R_lit_step (Kd.int .i64) _ 3 ?hg (N := 9) ?hd (xs := ([] : List Int)) (inner := []) (ok := fun _ => True) (okp := fun _ => True) ?hr ?hp (fun _ hk => hk) trivial (Below.refl _ _) (Nat.le_refl _) (by simp) ?_; (case hd => rfl); (case hg => rfl); (case hr => first | (go_simp; done) | (go_simp; rfl)); (case hp => exact (Reps.none _ _))
                intro v1329 w11 ho12 hb hg_ hnew_
                clear hg_ hnew_
                (first | rw [← Ny1328.out] at ho12 | (simp only [Int.reduceToNat] at ho12; rw [← Ny1328.out] at ho12))
                have n0_ := Aside0.mk (Kd.R_elder' (rq_ HO1324.out) (Kd.R_base ho12) hb)
                have n1_ := Aside0.mk (Kd.R_lower (Kd.R_new' ho12 (Kd.R_lt (rq_ HO1324.out))) (below_size (hb_ HB.out)))
                have n2_ := Aside0.mk (bb_ BK1320.out hb)
                have n3_ := Aside0.mk (bb_ BK1321.out hb)
                have n4_ := Aside0.mk (below_step (hb_ HB.out) hb)
                clear HO1324; clear BK1320
                clear BK1321; clear HB
                have HO1324 := n0_
                have HO1330 := n1_
                have BK1320 := n2_
                have BK1321 := n3_
                have HB := n4_
                clear n0_ n1_ n2_ n3_ n4_; clear hb ho12
                refine hK.out _ _ ⟨(blk_cell BK1320.out 0).trans rfl, (blk_cell BK1320.out 1).trans rfl, (blk_cell BK1320.out 2).trans rfl, (blk_cell BK1320.out 3).trans rfl⟩ (fun hHeld => ?_)
                clear hK K
                refine norm_ (a' := ?_) ?_ ?_
                rotate_left
                ·
                 show Act.put _ (some 9) _ = _
                 simp only [Act.put, List.setIfInBounds_toArray, List.set_cons_zero, List.set_cons_succ, i64_w, i32_w]
                 rfl
                exact norm_ (by first | (simp only [putAll, Act.put, List.setIfInBounds_toArray, List.set_cons_zero, List.set_cons_succ]; done) | (simp only [putAll, Act.put, List.setIfInBounds_toArray, List.set_cons_zero, List.set_cons_succ]; rfl)) (hJ2_6 (v1323, v1329) _ ⟨hHeld, (rm_ HO1324.out), (rm_ HO1330.out), (bq_ BK1320.out), (bq_ BK1321.out), (hb_ HB.out)⟩)
               ·
                skip
                refine Kd.R_lit_step (Kd.int .i64) _ 3 ?hg (N := 13) ?hd (xs := ([] : List Int)) (inner := []) (ok := fun _ => True) (okp := fun _ => True) ?hr ?hp (fun _ hk => hk) trivial (Below.refl _ _) (Nat.le_refl _) (by simp) ?_; (case hd => rfl); (case hg => rfl); (case hr => first | (go_simp; done) | (go_simp; rfl)); (case hp => exact (Reps.none _ _))
                intro v1335 w11 ho12 hb hg_ hnew_
                clear hg_ hnew_
                (first | rw [← Ny1334.out] at ho12 | (simp only [Int.reduceToNat] at ho12; rw [← Ny1334.out] at ho12))
                have n0_ := Aside0.mk (Kd.R_elder' (rq_ HO1324.out) (Kd.R_base ho12) hb)
                have n1_ := Aside0.mk (Kd.R_lower (Kd.R_new' ho12 (Kd.R_lt (rq_ HO1324.out))) (below_size (hb_ HB.out)))
                have n2_ := Aside0.mk (bb_ BK1320.out hb)
                have n3_ := Aside0.mk (bb_ BK1321.out hb)
                have n4_ := Aside0.mk (below_step (hb_ HB.out) hb)
                clear HO1324; clear BK1320
                clear BK1321; clear HB
                have HO1324 := n0_
                have HO1336 := n1_
                have BK1320 := n2_
                have BK1321 := n3_
                have HB := n4_
                clear n0_ n1_ n2_ n3_ n4_; clear hb ho12
                refine hK.out _ _ ⟨(blk_cell BK1320.out 0).trans rfl, (blk_cell BK1320.out 1).trans rfl, (blk_cell BK1320.out 2).trans rfl, (blk_cell BK1320.out 3).trans rfl⟩ (fun hHeld => ?_)
                clear hK K
                refine norm_ (a' := ?_) ?_ ?_
                rotate_left
                ·
                 show Act.put _ (some 13) _ = _
                 simp only [Act.put, List.setIfInBounds_toArray, List.set_cons_zero, List.set_cons_succ, i64_w, i32_w]
                 rfl
                exact norm_ (by first | (simp only [putAll, Act.put, List.setIfInBounds_toArray, List.set_cons_zero, List.set_cons_succ]; done) | (simp only [putAll, Act.put, List.setIfInBounds_toArray, List.set_cons_zero, List.set_cons_succ]; rfl)) (hJ2_10 (v1323, v1335) _ ⟨hHeld, (rm_ HO1324.out), (rm_ HO1336.out), (bq_ BK1320.out), (bq_ BK1321.out), (hb_ HB.out)⟩)
             ·
              skip
              rintro ⟨v1329, v1335⟩ w12 ⟨hS_, h0_, h1_, h2_, h3_, h4_⟩
              have n0_ : Aside0 (Kd.R (Kd.int .i64) 3 w12 w.heap.size (fun k_ => some k_ ≠ (v1335 : Value).ownBlock) v1329 y1328) := ⟨h0_⟩
              have n1_ : Aside0 (Kd.R (Kd.int .i64) 3 w12 w.heap.size (fun k_ => some k_ ≠ (v1329 : Value).ownBlock) v1335 y1334) := ⟨h1_⟩
              have n2_ : Aside0 (w12.heap[gb1320]? = some (.cells #[.int .i64 a0_0, .slice A0_1 l0_1.length c0_1, .slice A0_2 l0_2.length c0_2, .slice A0_3 l0_3.length c0_3] 26 (0, 0))) := ⟨h2_⟩
              have n3_ : Aside0 (w12.heap[gb1321]? = some (.cells #[.int .i64 0, .slice none 0 0, .slice none 0 0, .slice none 0 0] 26 (0, 0))) := ⟨h3_⟩
              have n4_ : Aside0 (Below w.heap.size w w12) := ⟨h4_⟩
              clear BK1320; clear BK1321
              clear HB; clear h0_ h1_ h2_ h3_ h4_
              have HO1330 := n0_
              have HO1336 := n1_
              have BK1320 := n2_
              have BK1321 := n3_
              have HB := n4_
              clear n0_ n1_ n2_ n3_ n4_
              have hHeld : w12.cell? ⟨gb1320, 0, none⟩ = some (.int .i64 a0_0) ∧ w12.cell? ⟨gb1320, 1, none⟩ = some (.slice A0_1 l0_1.length c0_1) ∧ w12.cell? ⟨gb1320, 2, none⟩ = some (.slice A0_2 l0_2.length c0_2) ∧ w12.cell? ⟨gb1320, 3, none⟩ = some (.slice A0_3 l0_3.length c0_3) := hS_
              refine norm_ (a' := ?_) ?_ ?_
              rotate_left; (focus simp only [putAll, Act.put, List.setIfInBounds_toArray, List.set_cons_zero, List.set_cons_succ]; rfl)
              refine one_ (i := 2) (N := some 5) spec_l5Copy.m5 rfl rfl (one_of HT_.out (by kernel_rfl)) (by decide) (fun K hK => ?_)
              refine Kd.R_lit_step (Kd.int .i64) _ 3 ?hg (N := 5) ?hd (xs := ([] : List Int)) (inner := []) (ok := fun _ => True) (okp := fun _ => True) ?hr ?hp (fun _ hk => hk) trivial (Below.refl _ _) (Nat.le_refl _) (by simp) ?_; (case hd => rfl); (case hg => rfl); (case hr => first | (go_simp; done) | (go_simp; rfl)); (case hp => exact (Reps.none _ _))
              intro v1323 w13 ho14 hb hg_ hnew_
              clear hg_ hnew_
              (first | rw [← Ny1322.out] at ho14 | (simp only [Int.reduceToNat] at ho14; rw [← Ny1322.out] at ho14))
              have n0_ := Aside0.mk (Kd.R_elder' (rq_ HO1330.out) (Kd.R_base ho14) hb)
              have n1_ := Aside0.mk (Kd.R_elder' (rq_ HO1336.out) (Kd.R_base ho14) hb)
              have n2_ := Aside0.mk (Kd.R_lower (Kd.R_new' (Kd.R_new' ho14 (Kd.R_lt (rq_ HO1330.out))) (Kd.R_lt (rq_ HO1336.out))) (below_size (hb_ HB.out)))
              have n3_ := Aside0.mk (bb_ BK1320.out hb)
              have n4_ := Aside0.mk (bb_ BK1321.out hb)
              have n5_ := Aside0.mk (below_step (hb_ HB.out) hb)
              clear HO1330; clear HO1336
              clear BK1320; clear BK1321
              clear HB
              have HO1330 := n0_
              have HO1336 := n1_
              have HO1324 := n2_
              have BK1320 := n3_
              have BK1321 := n4_
              have HB := n5_
              clear n0_ n1_ n2_ n3_ n4_ n5_; clear hb ho14
              refine hK.out _ _ ⟨(blk_cell BK1320.out 0).trans rfl, (blk_cell BK1320.out 1).trans rfl, (blk_cell BK1320.out 2).trans rfl, (blk_cell BK1320.out 3).trans rfl⟩ (fun hHeld => ?_)
              clear hK K
              refine norm_ (a' := ?_) ?_ ?_
              rotate_left
              ·
               show Act.put _ (some 5) _ = _
               simp only [Act.put, List.setIfInBounds_toArray, List.set_cons_zero, List.set_cons_succ, i64_w, i32_w]
               rfl
              exact norm_ (by first | (simp only [putAll, Act.put, List.setIfInBounds_toArray, List.set_cons_zero, List.set_cons_succ]; done) | (simp only [putAll, Act.put, List.setIfInBounds_toArray, List.set_cons_zero, List.set_cons_succ]; rfl)) (hJ2_6_10 (v1323, v1329, v1335) _ ⟨hHeld, (rm_ HO1324.out), (rm_ HO1330.out), (rm_ HO1336.out), (bq_ BK1320.out), (bq_ BK1321.out), (hb_ HB.out)⟩)
            ·
             skip
             rintro ⟨v1323, v1335⟩ w12 ⟨hS_, h0_, h1_, h2_, h3_, h4_⟩
             have n0_ : Aside0 (Kd.R (Kd.int .i64) 3 w12 w.heap.size (fun k_ => some k_ ≠ (v1335 : Value).ownBlock) v1323 y1322) := ⟨h0_⟩
             have n1_ : Aside0 (Kd.R (Kd.int .i64) 3 w12 w.heap.size (fun k_ => some k_ ≠ (v1323 : Value).ownBlock) v1335 y1334) := ⟨h1_⟩
             have n2_ : Aside0 (w12.heap[gb1320]? = some (.cells #[.int .i64 a0_0, .slice A0_1 l0_1.length c0_1, .slice A0_2 l0_2.length c0_2, .slice A0_3 l0_3.length c0_3] 26 (0, 0))) := ⟨h2_⟩
             have n3_ : Aside0 (w12.heap[gb1321]? = some (.cells #[.int .i64 0, .slice none 0 0, .slice none 0 0, .slice none 0 0] 26 (0, 0))) := ⟨h3_⟩
             have n4_ : Aside0 (Below w.heap.size w w12) := ⟨h4_⟩
             clear BK1320; clear BK1321
             clear HB; clear h0_ h1_ h2_ h3_ h4_
             have HO1324 := n0_
             have HO1336 := n1_
             have BK1320 := n2_
             have BK1321 := n3_
             have HB := n4_
             clear n0_ n1_ n2_ n3_ n4_
             have hHeld : w12.cell? ⟨gb1320, 0, none⟩ = some (.int .i64 a0_0) ∧ w12.cell? ⟨gb1320, 1, none⟩ = some (.slice A0_1 l0_1.length c0_1) ∧ w12.cell? ⟨gb1320, 2, none⟩ = some (.slice A0_2 l0_2.length c0_2) ∧ w12.cell? ⟨gb1320, 3, none⟩ = some (.slice A0_3 l0_3.length c0_3) := hS_
             refine norm_ (a' := ?_) ?_ ?_
             rotate_left; (focus simp only [putAll, Act.put, List.setIfInBounds_toArray, List.set_cons_zero, List.set_cons_succ]; rfl)
             refine two_ (i := 5) (j := 6) (Ni := some 8) (Nj := some 9) spec_l5Copy.m4 spec_l5Copy.m5 rfl rfl rfl rfl (two_of HT_.out (by kernel_rfl)) (by decide) (by decide) (fun K hK => ?_) (fun K hK => ?_)
             ·
              skip
              refine Kd.R_append_rows_step (Kd.int .i64) (w0 := w) w.heap.size (by rfl) (.tmp 5) (.tmp 7) 24 3 (.int .i64 0) 8 rfl Try.underlying24 info3 rfl (by decide) (by omega) v1323 y1322 l0_1 _ _ _ (fun k_ => some k_ ≠ (v1335 : Value).ownBlock) (fun _ => False) rfl rfl ?aO ?aR (fun _ _ h => h) (fun _ h => h.elim) ?aF ?aB ?aS ?aL ?_
              (case aR => repeat (first | exact (Kd.C_below HR0_1.out HB.out) | (with_reducible refine Kd.C_alloc ?_ _) | (with_reducible refine Kd.C_drewN ?_ _) | (with_reducible refine Kd.C_drew ?_)))
              (case aB => exact (hb_ HB.out))
              (case aF => exact (fun k_ hk => Kd.fresh' (Kd.R_lt (rq_ HO1336.out)) k_ hk))
              (case aO => exact (rq_ HO1324.out))
              (case aS => exact (below_size (hb_ HB.out)))
              (case aL => have := LMc2.out; omega)
              intro v1326 w13 ho hb hg hat
              rw [← Ny1325.out] at ho
              have n0_ := Aside0.mk (blk_grown (g := gb1320) (o := .cells #[.int .i64 a0_0, .slice A0_1 l0_1.length c0_1, .slice A0_2 l0_2.length c0_2, .slice A0_3 l0_3.length c0_3] 26 (0, 0)) (bq_ BK1320.out) hg (Kd.R_ne HO1324.out BK1320.out (by decide)))
              have n1_ := Aside0.mk (blk_grown (g := gb1321) (o := .cells #[.int .i64 0, .slice none 0 0, .slice none 0 0, .slice none 0 0] 26 (0, 0)) (bq_ BK1321.out) hg (Kd.R_ne HO1324.out BK1321.out (by decide)))
              have n2_ := Aside0.mk (Kd.R_after (ok := (fun _ => True)) (by (with_reducible repeat (first | apply Kd.R_alloc | apply Kd.R_drewN | apply Kd.R_drew)); exact Kd.R_mono HO1336.out (fun _ hk => ⟨trivial, hk⟩)) hg hat)
              have n3_ := Aside0.mk (hb)
              have n4_ := Aside0.mk (ho)
              clear BK1320; clear BK1321
              clear HO1336; clear HB
              clear HO1324
              have BK1320 := n0_
              have BK1321 := n1_
              have HO1336 := n2_
              have HB := n3_
              have HO1327 := n4_
              clear n0_ n1_ n2_ n3_ n4_; clear ho hb hg hat
              refine hK.out _ _ ⟨(blk_cell BK1320.out 0).trans rfl, (blk_cell BK1320.out 1).trans rfl, (blk_cell BK1320.out 2).trans rfl, (blk_cell BK1320.out 3).trans rfl⟩ (fun hHeld => ?_)
              clear hK K
              refine norm_ (a' := ?_) ?_ ?_
              rotate_left
              ·
               show Act.put _ (some 8) _ = _
               simp only [Act.put, List.setIfInBounds_toArray, List.set_cons_zero, List.set_cons_succ, i64_w, i32_w]
               rfl
              exact norm_ (by first | (simp only [putAll, Act.put, List.setIfInBounds_toArray, List.set_cons_zero, List.set_cons_succ]; done) | (simp only [putAll, Act.put, List.setIfInBounds_toArray, List.set_cons_zero, List.set_cons_succ]; rfl)) (hJ2_5_10 (v1323, v1326, v1335) _ ⟨hHeld, (rq_ HO1327.out), (rm_ HO1336.out), (bq_ BK1320.out), (bq_ BK1321.out), (hb_ HB.out)⟩)
             ·
              skip
              refine Kd.R_lit_step (Kd.int .i64) _ 3 ?hg (N := 9) ?hd (xs := ([] : List Int)) (inner := []) (ok := fun _ => True) (okp := fun _ => True) ?hr ?hp (fun _ hk => hk) trivial (Below.refl _ _) (Nat.le_refl _) (by simp) ?_; (case hd => rfl); (case hg => rfl); (case hr => first | (go_simp; done) | (go_simp; rfl)); (case hp => exact (Reps.none _ _))
              intro v1329 w13 ho14 hb hg_ hnew_
              clear hg_ hnew_
              (first | rw [← Ny1328.out] at ho14 | (simp only [Int.reduceToNat] at ho14; rw [← Ny1328.out] at ho14))
              have n0_ := Aside0.mk (Kd.R_elder' (rq_ HO1324.out) (Kd.R_base ho14) hb)
              have n1_ := Aside0.mk (Kd.R_elder' (rq_ HO1336.out) (Kd.R_base ho14) hb)
              have n2_ := Aside0.mk (Kd.R_lower (Kd.R_new' (Kd.R_new' ho14 (Kd.R_lt (rq_ HO1324.out))) (Kd.R_lt (rq_ HO1336.out))) (below_size (hb_ HB.out)))
              have n3_ := Aside0.mk (bb_ BK1320.out hb)
              have n4_ := Aside0.mk (bb_ BK1321.out hb)
              have n5_ := Aside0.mk (below_step (hb_ HB.out) hb)
              clear HO1324; clear HO1336
              clear BK1320; clear BK1321
              clear HB
              have HO1324 := n0_
              have HO1336 := n1_
              have HO1330 := n2_
              have BK1320 := n3_
              have BK1321 := n4_
              have HB := n5_
              clear n0_ n1_ n2_ n3_ n4_ n5_; clear hb ho14
              refine hK.out _ _ ⟨(blk_cell BK1320.out 0).trans rfl, (blk_cell BK1320.out 1).trans rfl, (blk_cell BK1320.out 2).trans rfl, (blk_cell BK1320.out 3).trans rfl⟩ (fun hHeld => ?_)
              clear hK K
              refine norm_ (a' := ?_) ?_ ?_
              rotate_left
              ·
               show Act.put _ (some 9) _ = _
               simp only [Act.put, List.setIfInBounds_toArray, List.set_cons_zero, List.set_cons_succ, i64_w, i32_w]
               rfl
              exact norm_ (by first | (simp only [putAll, Act.put, List.setIfInBounds_toArray, List.set_cons_zero, List.set_cons_succ]; done) | (simp only [putAll, Act.put, List.setIfInBounds_toArray, List.set_cons_zero, List.set_cons_succ]; rfl)) (hJ2_6_10 (v1323, v1329, v1335) _ ⟨hHeld, (rm_ HO1324.out), (rm_ HO1330.out), (rq_ HO1336.out), (bq_ BK1320.out), (bq_ BK1321.out), (hb_ HB.out)⟩)
           ·
            skip
            rintro ⟨v1323, v1329⟩ w12 ⟨hS_, h0_, h1_, h2_, h3_, h4_⟩
            have n0_ : Aside0 (Kd.R (Kd.int .i64) 3 w12 w.heap.size (fun k_ => some k_ ≠ (v1329 : Value).ownBlock) v1323 y1322) := ⟨h0_⟩
            have n1_ : Aside0 (Kd.R (Kd.int .i64) 3 w12 w.heap.size (fun k_ => some k_ ≠ (v1323 : Value).ownBlock) v1329 y1328) := ⟨h1_⟩
            have n2_ : Aside0 (w12.heap[gb1320]? = some (.cells #[.int .i64 a0_0, .slice A0_1 l0_1.length c0_1, .slice A0_2 l0_2.length c0_2, .slice A0_3 l0_3.length c0_3] 26 (0, 0))) := ⟨h2_⟩
            have n3_ : Aside0 (w12.heap[gb1321]? = some (.cells #[.int .i64 0, .slice none 0 0, .slice none 0 0, .slice none 0 0] 26 (0, 0))) := ⟨h3_⟩
            have n4_ : Aside0 (Below w.heap.size w w12) := ⟨h4_⟩
            clear BK1320; clear BK1321
            clear HB; clear h0_ h1_ h2_ h3_ h4_
            have HO1324 := n0_
            have HO1330 := n1_
            have BK1320 := n2_
            have BK1321 := n3_
            have HB := n4_
            clear n0_ n1_ n2_ n3_ n4_
            have hHeld : w12.cell? ⟨gb1320, 0, none⟩ = some (.int .i64 a0_0) ∧ w12.cell? ⟨gb1320, 1, none⟩ = some (.slice A0_1 l0_1.length c0_1) ∧ w12.cell? ⟨gb1320, 2, none⟩ = some (.slice A0_2 l0_2.length c0_2) ∧ w12.cell? ⟨gb1320, 3, none⟩ = some (.slice A0_3 l0_3.length c0_3) := hS_
            refine norm_ (a' := ?_) ?_ ?_
            rotate_left; (focus simp only [putAll, Act.put, List.setIfInBounds_toArray, List.set_cons_zero, List.set_cons_succ]; rfl)
            refine two_ (i := 5) (j := 10) (Ni := some 8) (Nj := some 13) spec_l5Copy.m3 spec_l5Copy.m5 rfl rfl rfl rfl (two_of HT_.out (by kernel_rfl)) (by decide) (by decide) (fun K hK => ?_) (fun K hK => ?_)
            ·
             skip
             refine Kd.R_append_rows_step (Kd.int .i64) (w0 := w) w.heap.size (by rfl) (.tmp 5) (.tmp 7) 24 3 (.int .i64 0) 8 rfl Try.underlying24 info3 rfl (by decide) (by omega) v1323 y1322 l0_1 _ _ _ (fun k_ => some k_ ≠ (v1329 : Value).ownBlock) (fun _ => False) rfl rfl ?aO ?aR (fun _ _ h => h) (fun _ h => h.elim) ?aF ?aB ?aS ?aL ?_
             (case aR => repeat (first | exact (Kd.C_below HR0_1.out HB.out) | (with_reducible refine Kd.C_alloc ?_ _) | (with_reducible refine Kd.C_drewN ?_ _) | (with_reducible refine Kd.C_drew ?_)))
             (case aB => exact (hb_ HB.out))
             (case aF => exact (fun k_ hk => Kd.fresh' (Kd.R_lt (rq_ HO1330.out)) k_ hk))
             (case aO => exact (rq_ HO1324.out))
             (case aS => exact (below_size (hb_ HB.out)))
             (case aL => have := LMc2.out; omega)
             intro v1326 w13 ho hb hg hat
             rw [← Ny1325.out] at ho
             have n0_ := Aside0.mk (blk_grown (g := gb1320) (o := .cells #[.int .i64 a0_0, .slice A0_1 l0_1.length c0_1, .slice A0_2 l0_2.length c0_2, .slice A0_3 l0_3.length c0_3] 26 (0, 0)) (bq_ BK1320.out) hg (Kd.R_ne HO1324.out BK1320.out (by decide)))
             have n1_ := Aside0.mk (blk_grown (g := gb1321) (o := .cells #[.int .i64 0, .slice none 0 0, .slice none 0 0, .slice none 0 0] 26 (0, 0)) (bq_ BK1321.out) hg (Kd.R_ne HO1324.out BK1321.out (by decide)))
             have n2_ := Aside0.mk (Kd.R_after (ok := (fun _ => True)) (by (with_reducible repeat (first | apply Kd.R_alloc | apply Kd.R_drewN | apply Kd.R_drew)); exact Kd.R_mono HO1330.out (fun _ hk => ⟨trivial, hk⟩)) hg hat)
             have n3_ := Aside0.mk (hb)
             have n4_ := Aside0.mk (ho)
             clear BK1320; clear BK1321
             clear HO1330; clear HB
             clear HO1324
             have BK1320 := n0_
             have BK1321 := n1_
             have HO1330 := n2_
             have HB := n3_
             have HO1327 := n4_
             clear n0_ n1_ n2_ n3_ n4_; clear ho hb hg hat
             refine hK.out _ _ ⟨(blk_cell BK1320.out 0).trans rfl, (blk_cell BK1320.out 1).trans rfl, (blk_cell BK1320.out 2).trans rfl, (blk_cell BK1320.out 3).trans rfl⟩ (fun hHeld => ?_)
             clear hK K
             refine norm_ (a' := ?_) ?_ ?_
             rotate_left
             ·
              show Act.put _ (some 8) _ = _
              simp only [Act.put, List.setIfInBounds_toArray, List.set_cons_zero, List.set_cons_succ, i64_w, i32_w]
              rfl
             exact norm_ (by first | (simp only [putAll, Act.put, List.setIfInBounds_toArray, List.set_cons_zero, List.set_cons_succ]; done) | (simp only [putAll, Act.put, List.setIfInBounds_toArray, List.set_cons_zero, List.set_cons_succ]; rfl)) (hJ2_5_6 (v1323, v1326, v1329) _ ⟨hHeld, (rq_ HO1327.out), (rm_ HO1330.out), (bq_ BK1320.out), (bq_ BK1321.out), (hb_ HB.out)⟩)
            ·
             skip
             refine Kd.R_lit_step (Kd.int .i64) _ 3 ?hg (N := 13) ?hd (xs := ([] : List Int)) (inner := []) (ok := fun _ => True) (okp := fun _ => True) ?hr ?hp (fun _ hk => hk) trivial (Below.refl _ _) (Nat.le_refl _) (by simp) ?_; (case hd => rfl); (case hg => rfl); (case hr => first | (go_simp; done) | (go_simp; rfl)); (case hp => exact (Reps.none _ _))
             intro v1335 w13 ho14 hb hg_ hnew_
             clear hg_ hnew_
             (first | rw [← Ny1334.out] at ho14 | (simp only [Int.reduceToNat] at ho14; rw [← Ny1334.out] at ho14))
             have n0_ := Aside0.mk (Kd.R_elder' (rq_ HO1324.out) (Kd.R_base ho14) hb)
             have n1_ := Aside0.mk (Kd.R_elder' (rq_ HO1330.out) (Kd.R_base ho14) hb)
             have n2_ := Aside0.mk (Kd.R_lower (Kd.R_new' (Kd.R_new' ho14 (Kd.R_lt (rq_ HO1324.out))) (Kd.R_lt (rq_ HO1330.out))) (below_size (hb_ HB.out)))
             have n3_ := Aside0.mk (bb_ BK1320.out hb)
             have n4_ := Aside0.mk (bb_ BK1321.out hb)
             have n5_ := Aside0.mk (below_step (hb_ HB.out) hb)
             clear HO1324; clear HO1330
             clear BK1320; clear BK1321
             clear HB
             have HO1324 := n0_
             have HO1330 := n1_
             have HO1336 := n2_
             have BK1320 := n3_
             have BK1321 := n4_
             have HB := n5_
             clear n0_ n1_ n2_ n3_ n4_ n5_; clear hb ho14
             refine hK.out _ _ ⟨(blk_cell BK1320.out 0).trans rfl, (blk_cell BK1320.out 1).trans rfl, (blk_cell BK1320.out 2).trans rfl, (blk_cell BK1320.out 3).trans rfl⟩ (fun hHeld => ?_)
             clear hK K
             refine norm_ (a' := ?_) ?_ ?_
             rotate_left
             ·
              show Act.put _ (some 13) _ = _
              simp only [Act.put, List.setIfInBounds_toArray, List.set_cons_zero, List.set_cons_succ, i64_w, i32_w]
              rfl
             exact norm_ (by first | (simp only [putAll, Act.put, List.setIfInBounds_toArray, List.set_cons_zero, List.set_cons_succ]; done) | (simp only [putAll, Act.put, List.setIfInBounds_toArray, List.set_cons_zero, List.set_cons_succ]; rfl)) (hJ2_6_10 (v1323, v1329, v1335) _ ⟨hHeld, (rq_ HO1324.out), (rq_ HO1330.out), (rm_ HO1336.out), (bq_ BK1320.out), (bq_ BK1321.out), (hb_ HB.out)⟩)
          ·
           skip
           rintro ⟨v1323, v1326⟩ w11 ⟨hS_, h0_, h1_, h2_, h3_⟩
           have n0_ : Aside0 (Kd.R (Kd.int .i64) 3 w11 w.heap.size (fun _ => True) v1326 y1325) := ⟨h0_⟩
           have n1_ : Aside0 (w11.heap[gb1320]? = some (.cells #[.int .i64 a0_0, .slice A0_1 l0_1.length c0_1, .slice A0_2 l0_2.length c0_2, .slice A0_3 l0_3.length c0_3] 26 (0, 0))) := ⟨h1_⟩
           have n2_ : Aside0 (w11.heap[gb1321]? = some (.cells #[.int .i64 0, .slice none 0 0, .slice none 0 0, .slice none 0 0] 26 (0, 0))) := ⟨h2_⟩
           have n3_ : Aside0 (Below w.heap.size w w11) := ⟨h3_⟩
           clear BK1320; clear BK1321
           clear HB; clear h0_ h1_ h2_ h3_
           have HO1327 := n0_
           have BK1320 := n1_
           have BK1321 := n2_
           have HB := n3_
           clear n0_ n1_ n2_ n3_
           have hHeld : w11.cell? ⟨gb1320, 0, none⟩ = some (.int .i64 a0_0) ∧ w11.cell? ⟨gb1320, 1, none⟩ = some (.slice A0_1 l0_1.length c0_1) ∧ w11.cell? ⟨gb1320, 2, none⟩ = some (.slice A0_2 l0_2.length c0_2) ∧ w11.cell? ⟨gb1320, 3, none⟩ = some (.slice A0_3 l0_3.length c0_3) := hS_
           refine norm_ (a' := ?_) ?_ ?_
           rotate_left; (focus simp only [putAll, Act.put, List.setIfInBounds_toArray, List.set_cons_zero, List.set_cons_succ]; rfl)
           refine two_ (i := 6) (j := 10) (Ni := some 9) (Nj := some 13) spec_l5Copy.m3 spec_l5Copy.m4 rfl rfl rfl rfl (two_of HT_.out (by kernel_rfl)) (by decide) (by decide) (fun K hK => ?_) (fun K hK => ?_)
           ·
            skip
            refine Kd.R_lit_step (Kd.int .i64) _ 3 ?hg (N := 9) ?hd (xs := ([] : List Int)) (inner := []) (ok := fun _ => True) (okp := fun _ => True) ?hr ?hp (fun _ hk => hk) trivial (Below.refl _ _) (Nat.le_refl _) (by simp) ?_; (case hd => rfl); (case hg => rfl); (case hr => first | (go_simp; done) | (go_simp; rfl)); (case hp => exact (Reps.none _ _))
            intro v1329 w12 ho13 hb hg_ hnew_
            clear hg_ hnew_
            (first | rw [← Ny1328.out] at ho13 | (simp only [Int.reduceToNat] at ho13; rw [← Ny1328.out] at ho13))
            have n0_ := Aside0.mk (Kd.R_elder' (rq_ HO1327.out) (Kd.R_base ho13) hb)
            have n1_ := Aside0.mk (Kd.R_lower (Kd.R_new' ho13 (Kd.R_lt (rq_ HO1327.out))) (below_size (hb_ HB.out)))
            have n2_ := Aside0.mk (bb_ BK1320.out hb)
            have n3_ := Aside0.mk (bb_ BK1321.out hb)
            have n4_ := Aside0.mk (below_step (hb_ HB.out) hb)
            clear HO1327; clear BK1320
            clear BK1321; clear HB
            have HO1327 := n0_
            have HO1330 := n1_
            have BK1320 := n2_
            have BK1321 := n3_
            have HB := n4_
            clear n0_ n1_ n2_ n3_ n4_; clear hb ho13
            refine hK.out _ _ ⟨(blk_cell BK1320.out 0).trans rfl, (blk_cell BK1320.out 1).trans rfl, (blk_cell BK1320.out 2).trans rfl, (blk_cell BK1320.out 3).trans rfl⟩ (fun hHeld => ?_)
            clear hK K
            refine norm_ (a' := ?_) ?_ ?_
            rotate_left
            ·
             show Act.put _ (some 9) _ = _
             simp only [Act.put, List.setIfInBounds_toArray, List.set_cons_zero, List.set_cons_succ, i64_w, i32_w]
             rfl
            exact norm_ (by first | (simp only [putAll, Act.put, List.setIfInBounds_toArray, List.set_cons_zero, List.set_cons_succ]; done) | (simp only [putAll, Act.put, List.setIfInBounds_toArray, List.set_cons_zero, List.set_cons_succ]; rfl)) (hJ2_5_6 (v1323, v1326, v1329) _ ⟨hHeld, (rm_ HO1327.out), (rm_ HO1330.out), (bq_ BK1320.out), (bq_ BK1321.out), (hb_ HB.out)⟩)
           ·
            skip
            refine Kd.R_lit_step (Kd.int .i64) _ 3 ?hg (N := 13) ?hd (xs := ([] : List Int)) (inner := []) (ok := fun _ => True) (okp := fun _ => True) ?hr ?hp (fun _ hk => hk) trivial (Below.refl _ _) (Nat.le_refl _) (by simp) ?_; (case hd => rfl); (case hg => rfl); (case hr => first | (go_simp; done) | (go_simp; rfl)); (case hp => exact (Reps.none _ _))
            intro v1335 w12 ho13 hb hg_ hnew_
            clear hg_ hnew_
            (first | rw [← Ny1334.out] at ho13 | (simp only [Int.reduceToNat] at ho13; rw [← Ny1334.out] at ho13))
            have n0_ := Aside0.mk (Kd.R_elder' (rq_ HO1327.out) (Kd.R_base ho13) hb)
            have n1_ := Aside0.mk (Kd.R_lower (Kd.R_new' ho13 (Kd.R_lt (rq_ HO1327.out))) (below_size (hb_ HB.out)))
            have n2_ := Aside0.mk (bb_ BK1320.out hb)
            have n3_ := Aside0.mk (bb_ BK1321.out hb)
            have n4_ := Aside0.mk (below_step (hb_ HB.out) hb)
            clear HO1327; clear BK1320
            clear BK1321; clear HB
            have HO1327 := n0_
            have HO1336 := n1_
            have BK1320 := n2_
            have BK1321 := n3_
            have HB := n4_
            clear n0_ n1_ n2_ n3_ n4_; clear hb ho13
            refine hK.out _ _ ⟨(blk_cell BK1320.out 0).trans rfl, (blk_cell BK1320.out 1).trans rfl, (blk_cell BK1320.out 2).trans rfl, (blk_cell BK1320.out 3).trans rfl⟩ (fun hHeld => ?_)
            clear hK K
            refine norm_ (a' := ?_) ?_ ?_
            rotate_left
            ·
             show Act.put _ (some 13) _ = _
             simp only [Act.put, List.setIfInBounds_toArray, List.set_cons_zero, List.set_cons_succ, i64_w, i32_w]
             rfl
            exact norm_ (by first | (simp only [putAll, Act.put, List.setIfInBounds_toArray, List.set_cons_zero, List.set_cons_succ]; done) | (simp only [putAll, Act.put, List.setIfInBounds_toArray, List.set_cons_zero, List.set_cons_succ]; rfl)) (hJ2_5_10 (v1323, v1326, v1335) _ ⟨hHeld, (rm_ HO1327.out), (rm_ HO1336.out), (bq_ BK1320.out), (bq_ BK1321.out), (hb_ HB.out)⟩)
         ·
          skip
          rintro ⟨v1323, v1329, v1335⟩ w14 ⟨hS_, h0_, h1_, h2_, h3_, h4_, h5_⟩
          have n0_ : Aside0 (Kd.R (Kd.int .i64) 3 w14 w.heap.size (fun k_ => some k_ ≠ (v1329 : Value).ownBlock ∧ some k_ ≠ (v1335 : Value).ownBlock) v1323 y1322) := ⟨h0_⟩
          have n1_ : Aside0 (Kd.R (Kd.int .i64) 3 w14 w.heap.size (fun k_ => some k_ ≠ (v1323 : Value).ownBlock ∧ some k_ ≠ (v1335 : Value).ownBlock) v1329 y1328) := ⟨h1_⟩
          have n2_ : Aside0 (Kd.R (Kd.int .i64) 3 w14 w.heap.size (fun k_ => some k_ ≠ (v1323 : Value).ownBlock ∧ some k_ ≠ (v1329 : Value).ownBlock) v1335 y1334) := ⟨h2_⟩
          have n3_ : Aside0 (w14.heap[gb1320]? = some (.cells #[.int .i64 a0_0, .slice A0_1 l0_1.length c0_1, .slice A0_2 l0_2.length c0_2, .slice A0_3 l0_3.length c0_3] 26 (0, 0))) := ⟨h3_⟩
          have n4_ : Aside0 (w14.heap[gb1321]? = some (.cells #[.int .i64 0, .slice none 0 0, .slice none 0 0, .slice none 0 0] 26 (0, 0))) := ⟨h4_⟩
          have n5_ : Aside0 (Below w.heap.size w w14) := ⟨h5_⟩
          clear BK1320; clear BK1321
          clear HB; clear h0_ h1_ h2_ h3_ h4_ h5_
          have HO1324 := n0_
          have HO1330 := n1_
          have HO1336 := n2_
          have BK1320 := n3_
          have BK1321 := n4_
          have HB := n5_
          clear n0_ n1_ n2_ n3_ n4_ n5_
          have hHeld : w14.cell? ⟨gb1320, 0, none⟩ = some (.int .i64 a0_0) ∧ w14.cell? ⟨gb1320, 1, none⟩ = some (.slice A0_1 l0_1.length c0_1) ∧ w14.cell? ⟨gb1320, 2, none⟩ = some (.slice A0_2 l0_2.length c0_2) ∧ w14.cell? ⟨gb1320, 3, none⟩ = some (.slice A0_3 l0_3.length c0_3) := hS_
          refine norm_ (a' := ?_) ?_ ?_
          rotate_left; (focus simp only [putAll, Act.put, List.setIfInBounds_toArray, List.set_cons_zero, List.set_cons_succ]; rfl)
          refine one_ (i := 5) (N := some 8) spec_l5Copy.m2 rfl rfl (one_of HT_.out (by kernel_rfl)) (by decide) (fun K hK => ?_)
          refine Kd.R_append_rows_step (Kd.int .i64) (w0 := w) w.heap.size (by rfl) (.tmp 5) (.tmp 7) 24 3 (.int .i64 0) 8 rfl Try.underlying24 info3 rfl (by decide) (by omega) v1323 y1322 l0_1 _ _ _ (fun k_ => some k_ ≠ (v1329 : Value).ownBlock ∧ some k_ ≠ (v1335 : Value).ownBlock) (fun _ => False) rfl rfl ?aO ?aR (fun _ _ h => h) (fun _ h => h.elim) ?aF ?aB ?aS ?aL ?_
          (case aR => repeat (first | exact (Kd.C_below HR0_1.out HB.out) | (with_reducible refine Kd.C_alloc ?_ _) | (with_reducible refine Kd.C_drewN ?_ _) | (with_reducible refine Kd.C_drew ?_)))
          (case aB => exact (hb_ HB.out))
          (case aF => exact (fun k_ hk => ⟨Kd.fresh' (Kd.R_lt (rq_ HO1330.out)) k_ hk, Kd.fresh' (Kd.R_lt (rq_ HO1336.out)) k_ hk⟩))
          (case aO => exact (rq_ HO1324.out))
          (case aS => exact (below_size (hb_ HB.out)))
          (case aL => have := LMc2.out; omega)
          intro v1326 w15 ho hb hg hat
          rw [← Ny1325.out] at ho
          have n0_ := Aside0.mk (blk_grown (g := gb1320) (o := .cells #[.int .i64 a0_0, .slice A0_1 l0_1.length c0_1, .slice A0_2 l0_2.length c0_2, .slice A0_3 l0_3.length c0_3] 26 (0, 0)) (bq_ BK1320.out) hg (Kd.R_ne HO1324.out BK1320.out (by decide)))
          have n1_ := Aside0.mk (blk_grown (g := gb1321) (o := .cells #[.int .i64 0, .slice none 0 0, .slice none 0 0, .slice none 0 0] 26 (0, 0)) (bq_ BK1321.out) hg (Kd.R_ne HO1324.out BK1321.out (by decide)))
          have n2_ := Aside0.mk (Kd.R_after (ok := (fun k_ => some k_ ≠ (v1335 : Value).ownBlock)) (rm_ HO1330.out) hg hat)
          have n3_ := Aside0.mk (Kd.R_after (ok := (fun k_ => some k_ ≠ (v1329 : Value).ownBlock)) (rm_ HO1336.out) hg hat)
          have n4_ := Aside0.mk (hb)
          have n5_ := Aside0.mk (ho)
          clear BK1320; clear BK1321
          clear HO1330; clear HO1336
          clear HB; clear HO1324
          have BK1320 := n0_
          have BK1321 := n1_
          have HO1330 := n2_
          have HO1336 := n3_
          have HB := n4_
          have HO1327 := n5_
          clear n0_ n1_ n2_ n3_ n4_ n5_; clear ho hb hg hat
          refine hK.out _ _ ⟨(blk_cell BK1320.out 0).trans rfl, (blk_cell BK1320.out 1).trans rfl, (blk_cell BK1320.out 2).trans rfl, (blk_cell BK1320.out 3).trans rfl⟩ (fun hHeld => ?_)
          clear hK K
          refine norm_ (a' := ?_) ?_ ?_
          rotate_left
          ·
           show Act.put _ (some 8) _ = _
           simp only [Act.put, List.setIfInBounds_toArray, List.set_cons_zero, List.set_cons_succ, i64_w, i32_w]
           rfl
          exact norm_ (by first | (simp only [putAll, Act.put, List.setIfInBounds_toArray, List.set_cons_zero, List.set_cons_succ]; done) | (simp only [putAll, Act.put, List.setIfInBounds_toArray, List.set_cons_zero, List.set_cons_succ]; rfl)) (hJ2_5_6_10 (v1323, v1326, v1329, v1335) _ ⟨hHeld, (rq_ HO1327.out), (rm_ HO1330.out), (rm_ HO1336.out), (bq_ BK1320.out), (bq_ BK1321.out), (hb_ HB.out)⟩)
        ·
         skip
         rintro ⟨v1323, v1326, v1335⟩ w13 ⟨hS_, h0_, h1_, h2_, h3_, h4_⟩
         have n0_ : Aside0 (Kd.R (Kd.int .i64) 3 w13 w.heap.size (fun k_ => some k_ ≠ (v1335 : Value).ownBlock) v1326 y1325) := ⟨h0_⟩
         have n1_ : Aside0 (Kd.R (Kd.int .i64) 3 w13 w.heap.size (fun k_ => some k_ ≠ (v1326 : Value).ownBlock) v1335 y1334) := ⟨h1_⟩
         have n2_ : Aside0 (w13.heap[gb1320]? = some (.cells #[.int .i64 a0_0, .slice A0_1 l0_1.length c0_1, .slice A0_2 l0_2.length c0_2, .slice A0_3 l0_3.length c0_3] 26 (0, 0))) := ⟨h2_⟩
         have n3_ : Aside0 (w13.heap[gb1321]? = some (.cells #[.int .i64 0, .slice none 0 0, .slice none 0 0, .slice none 0 0] 26 (0, 0))) := ⟨h3_⟩
         have n4_ : Aside0 (Below w.heap.size w w13) := ⟨h4_⟩
         clear BK1320; clear BK1321
         clear HB; clear h0_ h1_ h2_ h3_ h4_
         have HO1327 := n0_
         have HO1336 := n1_
         have BK1320 := n2_
         have BK1321 := n3_
         have HB := n4_
         clear n0_ n1_ n2_ n3_ n4_
         have hHeld : w13.cell? ⟨gb1320, 0, none⟩ = some (.int .i64 a0_0) ∧ w13.cell? ⟨gb1320, 1, none⟩ = some (.slice A0_1 l0_1.length c0_1) ∧ w13.cell? ⟨gb1320, 2, none⟩ = some (.slice A0_2 l0_2.length c0_2) ∧ w13.cell? ⟨gb1320, 3, none⟩ = some (.slice A0_3 l0_3.length c0_3) := hS_
         refine norm_ (a' := ?_) ?_ ?_
         rotate_left; (focus simp only [putAll, Act.put, List.setIfInBounds_toArray, List.set_cons_zero, List.set_cons_succ]; rfl)
         refine one_ (i := 6) (N := some 9) spec_l5Copy.m2 rfl rfl (one_of HT_.out (by kernel_rfl)) (by decide) (fun K hK => ?_)
         refine Kd.R_lit_step (Kd.int .i64) _ 3 ?hg (N := 9) ?hd (xs := ([] : List Int)) (inner := []) (ok := fun _ => True) (okp := fun _ => True) ?hr ?hp (fun _ hk => hk) trivial (Below.refl _ _) (Nat.le_refl _) (by simp) ?_; (case hd => rfl); (case hg => rfl); (case hr => first | (go_simp; done) | (go_simp; rfl)); (case hp => exact (Reps.none _ _))
         intro v1329 w14 ho15 hb hg_ hnew_
         clear hg_ hnew_
         (first | rw [← Ny1328.out] at ho15 | (simp only [Int.reduceToNat] at ho15; rw [← Ny1328.out] at ho15))
         have n0_ := Aside0.mk (Kd.R_elder' (rq_ HO1327.out) (Kd.R_base ho15) hb)
         have n1_ := Aside0.mk (Kd.R_elder' (rq_ HO1336.out) (Kd.R_base ho15) hb)
         have n2_ := Aside0.mk (Kd.R_lower (Kd.R_new' (Kd.R_new' ho15 (Kd.R_lt (rq_ HO1327.out))) (Kd.R_lt (rq_ HO1336.out))) (below_size (hb_ HB.out)))
         have n3_ := Aside0.mk (bb_ BK1320.out hb)
         have n4_ := Aside0.mk (bb_ BK1321.out hb)
         have n5_ := Aside0.mk (below_step (hb_ HB.out) hb)
         clear HO1327; clear HO1336
         clear BK1320; clear BK1321
         clear HB
         have HO1327 := n0_
         have HO1336 := n1_
         have HO1330 := n2_
         have BK1320 := n3_
         have BK1321 := n4_
         have HB := n5_
         clear n0_ n1_ n2_ n3_ n4_ n5_; clear hb ho15
         refine hK.out _ _ ⟨(blk_cell BK1320.out 0).trans rfl, (blk_cell BK1320.out 1).trans rfl, (blk_cell BK1320.out 2).trans rfl, (blk_cell BK1320.out 3).trans rfl⟩ (fun hHeld => ?_)
         clear hK K
         refine norm_ (a' := ?_) ?_ ?_
         rotate_left
         ·
          show Act.put _ (some 9) _ = _
          simp only [Act.put, List.setIfInBounds_toArray, List.set_cons_zero, List.set_cons_succ, i64_w, i32_w]
          rfl
         exact norm_ (by first | (simp only [putAll, Act.put, List.setIfInBounds_toArray, List.set_cons_zero, List.set_cons_succ]; done) | (simp only [putAll, Act.put, List.setIfInBounds_toArray, List.set_cons_zero, List.set_cons_succ]; rfl)) (hJ2_5_6_10 (v1323, v1326, v1329, v1335) _ ⟨hHeld, (rm_ HO1327.out), (rm_ HO1330.out), (rq_ HO1336.out), (bq_ BK1320.out), (bq_ BK1321.out), (hb_ HB.out)⟩)
       ·
        skip
        rintro ⟨v1323, v1326, v1329⟩ w13 ⟨hS_, h0_, h1_, h2_, h3_, h4_⟩
        have n0_ : Aside0 (Kd.R (Kd.int .i64) 3 w13 w.heap.size (fun k_ => some k_ ≠ (v1329 : Value).ownBlock) v1326 y1325) := ⟨h0_⟩
        have n1_ : Aside0 (Kd.R (Kd.int .i64) 3 w13 w.heap.size (fun k_ => some k_ ≠ (v1326 : Value).ownBlock) v1329 y1328) := ⟨h1_⟩
        have n2_ : Aside0 (w13.heap[gb1320]? = some (.cells #[.int .i64 a0_0, .slice A0_1 l0_1.length c0_1, .slice A0_2 l0_2.length c0_2, .slice A0_3 l0_3.length c0_3] 26 (0, 0))) := ⟨h2_⟩
        have n3_ : Aside0 (w13.heap[gb1321]? = some (.cells #[.int .i64 0, .slice none 0 0, .slice none 0 0, .slice none 0 0] 26 (0, 0))) := ⟨h3_⟩
        have n4_ : Aside0 (Below w.heap.size w w13) := ⟨h4_⟩
        clear BK1320; clear BK1321
        clear HB; clear h0_ h1_ h2_ h3_ h4_
        have HO1327 := n0_
        have HO1330 := n1_
        have BK1320 := n2_
        have BK1321 := n3_
        have HB := n4_
        clear n0_ n1_ n2_ n3_ n4_
        have hHeld : w13.cell? ⟨gb1320, 0, none⟩ = some (.int .i64 a0_0) ∧ w13.cell? ⟨gb1320, 1, none⟩ = some (.slice A0_1 l0_1.length c0_1) ∧ w13.cell? ⟨gb1320, 2, none⟩ = some (.slice A0_2 l0_2.length c0_2) ∧ w13.cell? ⟨gb1320, 3, none⟩ = some (.slice A0_3 l0_3.length c0_3) := hS_
        refine norm_ (a' := ?_) ?_ ?_
        rotate_left; (focus simp only [putAll, Act.put, List.setIfInBounds_toArray, List.set_cons_zero, List.set_cons_succ]; rfl)
        refine two_ (i := 9) (j := 10) (Ni := some 12) (Nj := some 13) spec_l5Copy.m1 spec_l5Copy.m2 rfl rfl rfl rfl (two_of HT_.out (by kernel_rfl)) (by decide) (by decide) (fun K hK => ?_) (fun K hK => ?_)
        ·
         skip
         refine Kd.R_append_rows_step (Kd.int .i64) (w0 := w) w.heap.size (by rfl) (.tmp 9) (.tmp 11) 24 3 (.int .i64 0) 8 rfl Try.underlying24 info3 rfl (by decide) (by omega) v1329 y1328 l0_2 _ _ _ (fun k_ => some k_ ≠ (v1326 : Value).ownBlock) (fun _ => False) rfl rfl ?aO ?aR (fun _ _ h => h) (fun _ h => h.elim) ?aF ?aB ?aS ?aL ?_
         (case aR => repeat (first | exact (Kd.C_below HR0_2.out HB.out) | (with_reducible refine Kd.C_alloc ?_ _) | (with_reducible refine Kd.C_drewN ?_ _) | (with_reducible refine Kd.C_drew ?_)))
         (case aB => exact (hb_ HB.out))
         (case aF => exact (fun k_ hk => Kd.fresh' (Kd.R_lt (rq_ HO1327.out)) k_ hk))
         (case aO => exact (rq_ HO1330.out))
         (case aS => exact (below_size (hb_ HB.out)))
         (case aL => have := LMc3.out; omega)
         intro v1332 w14 ho hb hg hat
         rw [← Ny1331.out] at ho
         have n0_ := Aside0.mk (blk_grown (g := gb1320) (o := .cells #[.int .i64 a0_0, .slice A0_1 l0_1.length c0_1, .slice A0_2 l0_2.length c0_2, .slice A0_3 l0_3.length c0_3] 26 (0, 0)) (bq_ BK1320.out) hg (Kd.R_ne HO1330.out BK1320.out (by decide)))
         have n1_ := Aside0.mk (blk_grown (g := gb1321) (o := .cells #[.int .i64 0, .slice none 0 0, .slice none 0 0, .slice none 0 0] 26 (0, 0)) (bq_ BK1321.out) hg (Kd.R_ne HO1330.out BK1321.out (by decide)))
         have n2_ := Aside0.mk (Kd.R_after (ok := (fun _ => True)) (by (with_reducible repeat (first | apply Kd.R_alloc | apply Kd.R_drewN | apply Kd.R_drew)); exact Kd.R_mono HO1327.out (fun _ hk => ⟨trivial, hk⟩)) hg hat)
         have n3_ := Aside0.mk (hb)
         have n4_ := Aside0.mk (ho)
         clear BK1320; clear BK1321
         clear HO1327; clear HB
         clear HO1330
         have BK1320 := n0_
         have BK1321 := n1_
         have HO1327 := n2_
         have HB := n3_
         have HO1333 := n4_
         clear n0_ n1_ n2_ n3_ n4_; clear ho hb hg hat
         refine hK.out _ _ ⟨(blk_cell BK1320.out 0).trans rfl, (blk_cell BK1320.out 1).trans rfl, (blk_cell BK1320.out 2).trans rfl, (blk_cell BK1320.out 3).trans rfl⟩ (fun hHeld => ?_)
         clear hK K
         refine norm_ (a' := ?_) ?_ ?_
         rotate_left
         ·
          show Act.put _ (some 12) _ = _
          simp only [Act.put, List.setIfInBounds_toArray, List.set_cons_zero, List.set_cons_succ, i64_w, i32_w]
          rfl
         exact norm_ (by first | (simp only [putAll, Act.put, List.setIfInBounds_toArray, List.set_cons_zero, List.set_cons_succ]; done) | (simp only [putAll, Act.put, List.setIfInBounds_toArray, List.set_cons_zero, List.set_cons_succ]; rfl)) (hJ2_5_6_9 (v1323, v1326, v1329, v1332) _ ⟨hHeld, (rm_ HO1327.out), (rq_ HO1333.out), (bq_ BK1320.out), (bq_ BK1321.out), (hb_ HB.out)⟩)
        ·
         skip
         refine Kd.R_lit_step (Kd.int .i64) _ 3 ?hg (N := 13) ?hd (xs := ([] : List Int)) (inner := []) (ok := fun _ => True) (okp := fun _ => True) ?hr ?hp (fun _ hk => hk) trivial (Below.refl _ _) (Nat.le_refl _) (by simp) ?_; (case hd => rfl); (case hg => rfl); (case hr => first | (go_simp; done) | (go_simp; rfl)); (case hp => exact (Reps.none _ _))
         intro v1335 w14 ho15 hb hg_ hnew_
         clear hg_ hnew_
         (first | rw [← Ny1334.out] at ho15 | (simp only [Int.reduceToNat] at ho15; rw [← Ny1334.out] at ho15))
         have n0_ := Aside0.mk (Kd.R_elder' (rq_ HO1327.out) (Kd.R_base ho15) hb)
         have n1_ := Aside0.mk (Kd.R_elder' (rq_ HO1330.out) (Kd.R_base ho15) hb)
         have n2_ := Aside0.mk (Kd.R_lower (Kd.R_new' (Kd.R_new' ho15 (Kd.R_lt (rq_ HO1327.out))) (Kd.R_lt (rq_ HO1330.out))) (below_size (hb_ HB.out)))
         have n3_ := Aside0.mk (bb_ BK1320.out hb)
         have n4_ := Aside0.mk (bb_ BK1321.out hb)
         have n5_ := Aside0.mk (below_step (hb_ HB.out) hb)
         clear HO1327; clear HO1330
         clear BK1320; clear BK1321
         clear HB
         have HO1327 := n0_
         have HO1330 := n1_
         have HO1336 := n2_
         have BK1320 := n3_
         have BK1321 := n4_
         have HB := n5_
         clear n0_ n1_ n2_ n3_ n4_ n5_; clear hb ho15
         refine hK.out _ _ ⟨(blk_cell BK1320.out 0).trans rfl, (blk_cell BK1320.out 1).trans rfl, (blk_cell BK1320.out 2).trans rfl, (blk_cell BK1320.out 3).trans rfl⟩ (fun hHeld => ?_)
         clear hK K
         refine norm_ (a' := ?_) ?_ ?_
         rotate_left
         ·
          show Act.put _ (some 13) _ = _
          simp only [Act.put, List.setIfInBounds_toArray, List.set_cons_zero, List.set_cons_succ, i64_w, i32_w]
          rfl
         exact norm_ (by first | (simp only [putAll, Act.put, List.setIfInBounds_toArray, List.set_cons_zero, List.set_cons_succ]; done) | (simp only [putAll, Act.put, List.setIfInBounds_toArray, List.set_cons_zero, List.set_cons_succ]; rfl)) (hJ2_5_6_10 (v1323, v1326, v1329, v1335) _ ⟨hHeld, (rq_ HO1327.out), (rq_ HO1330.out), (rm_ HO1336.out), (bq_ BK1320.out), (bq_ BK1321.out), (hb_ HB.out)⟩)
      ·
       skip
       rintro ⟨v1323, v1326, v1329, v1335⟩ w15 ⟨hS_, h0_, h1_, h2_, h3_, h4_, h5_⟩
       have n0_ : Aside0 (Kd.R (Kd.int .i64) 3 w15 w.heap.size (fun k_ => some k_ ≠ (v1329 : Value).ownBlock ∧ some k_ ≠ (v1335 : Value).ownBlock) v1326 y1325) := ⟨h0_⟩
       have n1_ : Aside0 (Kd.R (Kd.int .i64) 3 w15 w.heap.size (fun k_ => some k_ ≠ (v1326 : Value).ownBlock ∧ some k_ ≠ (v1335 : Value).ownBlock) v1329 y1328) := ⟨h1_⟩
       have n2_ : Aside0 (Kd.R (Kd.int .i64) 3 w15 w.heap.size (fun k_ => some k_ ≠ (v1326 : Value).ownBlock ∧ some k_ ≠ (v1329 : Value).ownBlock) v1335 y1334) := ⟨h2_⟩
       have n3_ : Aside0 (w15.heap[gb1320]? = some (.cells #[.int .i64 a0_0, .slice A0_1 l0_1.length c0_1, .slice A0_2 l0_2.length c0_2, .slice A0_3 l0_3.length c0_3] 26 (0, 0))) := ⟨h3_⟩
       have n4_ : Aside0 (w15.heap[gb1321]? = some (.cells #[.int .i64 0, .slice none 0 0, .slice none 0 0, .slice none 0 0] 26 (0, 0))) := ⟨h4_⟩
       have n5_ : Aside0 (Below w.heap.size w w15) := ⟨h5_⟩
       clear BK1320; clear BK1321
       clear HB; clear h0_ h1_ h2_ h3_ h4_ h5_
       have HO1327 := n0_
       have HO1330 := n1_
       have HO1336 := n2_
       have BK1320 := n3_
       have BK1321 := n4_
       have HB := n5_
       clear n0_ n1_ n2_ n3_ n4_ n5_
       have hHeld : w15.cell? ⟨gb1320, 0, none⟩ = some (.int .i64 a0_0) ∧ w15.cell? ⟨gb1320, 1, none⟩ = some (.slice A0_1 l0_1.length c0_1) ∧ w15.cell? ⟨gb1320, 2, none⟩ = some (.slice A0_2 l0_2.length c0_2) ∧ w15.cell? ⟨gb1320, 3, none⟩ = some (.slice A0_3 l0_3.length c0_3) := hS_
       refine norm_ (a' := ?_) ?_ ?_
       rotate_left; (focus simp only [putAll, Act.put, List.setIfInBounds_toArray, List.set_cons_zero, List.set_cons_succ]; rfl)
       refine one_ (i := 9) (N := some 12) spec_l5Copy.m0 rfl rfl (one_of HT_.out (by kernel_rfl)) (by decide) (fun K hK => ?_)
       refine Kd.R_append_rows_step (Kd.int .i64) (w0 := w) w.heap.size (by rfl) (.tmp 9) (.tmp 11) 24 3 (.int .i64 0) 8 rfl Try.underlying24 info3 rfl (by decide) (by omega) v1329 y1328 l0_2 _ _ _ (fun k_ => some k_ ≠ (v1326 : Value).ownBlock ∧ some k_ ≠ (v1335 : Value).ownBlock) (fun _ => False) rfl rfl ?aO ?aR (fun _ _ h => h) (fun _ h => h.elim) ?aF ?aB ?aS ?aL ?_
       (case aR => repeat (first | exact (Kd.C_below HR0_2.out HB.out) | (with_reducible refine Kd.C_alloc ?_ _) | (with_reducible refine Kd.C_drewN ?_ _) | (with_reducible refine Kd.C_drew ?_)))
       (case aB => exact (hb_ HB.out))
       (case aF => exact (fun k_ hk => ⟨Kd.fresh' (Kd.R_lt (rq_ HO1327.out)) k_ hk, Kd.fresh' (Kd.R_lt (rq_ HO1336.out)) k_ hk⟩))
       (case aO => exact (rq_ HO1330.out))
       (case aS => exact (below_size (hb_ HB.out)))
       (case aL => have := LMc3.out; omega)
       intro v1332 w16 ho hb hg hat
       rw [← Ny1331.out] at ho
       have n0_ := Aside0.mk (blk_grown (g := gb1320) (o := .cells #[.int .i64 a0_0, .slice A0_1 l0_1.length c0_1, .slice A0_2 l0_2.length c0_2, .slice A0_3 l0_3.length c0_3] 26 (0, 0)) (bq_ BK1320.out) hg (Kd.R_ne HO1330.out BK1320.out (by decide)))
       have n1_ := Aside0.mk (blk_grown (g := gb1321) (o := .cells #[.int .i64 0, .slice none 0 0, .slice none 0 0, .slice none 0 0] 26 (0, 0)) (bq_ BK1321.out) hg (Kd.R_ne HO1330.out BK1321.out (by decide)))
       have n2_ := Aside0.mk (Kd.R_after (ok := (fun k_ => some k_ ≠ (v1335 : Value).ownBlock)) (rm_ HO1327.out) hg hat)
       have n3_ := Aside0.mk (Kd.R_after (ok := (fun k_ => some k_ ≠ (v1326 : Value).ownBlock)) (rq_ HO1336.out) hg hat)
       have n4_ := Aside0.mk (hb)
       have n5_ := Aside0.mk (ho)
       clear BK1320; clear BK1321
       clear HO1327; clear HO1336
       clear HB; clear HO1330
       have BK1320 := n0_
       have BK1321 := n1_
       have HO1327 := n2_
       have HO1336 := n3_
       have HB := n4_
       have HO1333 := n5_
       clear n0_ n1_ n2_ n3_ n4_ n5_; clear ho hb hg hat
       refine hK.out _ _ ⟨(blk_cell BK1320.out 0).trans rfl, (blk_cell BK1320.out 1).trans rfl, (blk_cell BK1320.out 2).trans rfl, (blk_cell BK1320.out 3).trans rfl⟩ (fun hHeld => ?_)
       clear hK K
       refine norm_ (a' := ?_) ?_ ?_
       rotate_left
       ·
        show Act.put _ (some 12) _ = _
        simp only [Act.put, List.setIfInBounds_toArray, List.set_cons_zero, List.set_cons_succ, i64_w, i32_w]
        rfl
       exact norm_ (by first | (simp only [putAll, Act.put, List.setIfInBounds_toArray, List.set_cons_zero, List.set_cons_succ]; done) | (simp only [putAll, Act.put, List.setIfInBounds_toArray, List.set_cons_zero, List.set_cons_succ]; rfl)) (hJ2_5_6_9_10 (v1323, v1326, v1329, v1332, v1335) _ ⟨hHeld, (rm_ HO1327.out), (rq_ HO1333.out), (rq_ HO1336.out), (bq_ BK1320.out), (bq_ BK1321.out), (hb_ HB.out)⟩)
     ·
      skip
      rintro ⟨v1323, v1326, v1329, v1332⟩ w14 ⟨hS_, h0_, h1_, h2_, h3_, h4_⟩
      have n0_ : Aside0 (Kd.R (Kd.int .i64) 3 w14 w.heap.size (fun k_ => some k_ ≠ (v1332 : Value).ownBlock) v1326 y1325) := ⟨h0_⟩
      have n1_ : Aside0 (Kd.R (Kd.int .i64) 3 w14 w.heap.size (fun k_ => some k_ ≠ (v1326 : Value).ownBlock) v1332 y1331) := ⟨h1_⟩
      have n2_ : Aside0 (w14.heap[gb1320]? = some (.cells #[.int .i64 a0_0, .slice A0_1 l0_1.length c0_1, .slice A0_2 l0_2.length c0_2, .slice A0_3 l0_3.length c0_3] 26 (0, 0))) := ⟨h2_⟩
      have n3_ : Aside0 (w14.heap[gb1321]? = some (.cells #[.int .i64 0, .slice none 0 0, .slice none 0 0, .slice none 0 0] 26 (0, 0))) := ⟨h3_⟩
      have n4_ : Aside0 (Below w.heap.size w w14) := ⟨h4_⟩
      clear BK1320; clear BK1321
      clear HB; clear h0_ h1_ h2_ h3_ h4_
      have HO1327 := n0_
      have HO1333 := n1_
      have BK1320 := n2_
      have BK1321 := n3_
      have HB := n4_
      clear n0_ n1_ n2_ n3_ n4_
      have hHeld : w14.cell? ⟨gb1320, 0, none⟩ = some (.int .i64 a0_0) ∧ w14.cell? ⟨gb1320, 1, none⟩ = some (.slice A0_1 l0_1.length c0_1) ∧ w14.cell? ⟨gb1320, 2, none⟩ = some (.slice A0_2 l0_2.length c0_2) ∧ w14.cell? ⟨gb1320, 3, none⟩ = some (.slice A0_3 l0_3.length c0_3) := hS_
      refine norm_ (a' := ?_) ?_ ?_
      rotate_left; (focus simp only [putAll, Act.put, List.setIfInBounds_toArray, List.set_cons_zero, List.set_cons_succ]; rfl)
      refine one_ (i := 10) (N := some 13) spec_l5Copy.m0 rfl rfl (one_of HT_.out (by kernel_rfl)) (by decide) (fun K hK => ?_)
      refine Kd.R_lit_step (Kd.int .i64) _ 3 ?hg (N := 13) ?hd (xs := ([] : List Int)) (inner := []) (ok := fun _ => True) (okp := fun _ => True) ?hr ?hp (fun _ hk => hk) trivial (Below.refl _ _) (Nat.le_refl _) (by simp) ?_; (case hd => rfl); (case hg => rfl); (case hr => first | (go_simp; done) | (go_simp; rfl)); (case hp => exact (Reps.none _ _))
      intro v1335 w15 ho16 hb hg_ hnew_
      clear hg_ hnew_
      (first | rw [← Ny1334.out] at ho16 | (simp only [Int.reduceToNat] at ho16; rw [← Ny1334.out] at ho16))
      have n0_ := Aside0.mk (Kd.R_elder' (rq_ HO1327.out) (Kd.R_base ho16) hb)
      have n1_ := Aside0.mk (Kd.R_elder' (rq_ HO1333.out) (Kd.R_base ho16) hb)
      have n2_ := Aside0.mk (Kd.R_lower (Kd.R_new' (Kd.R_new' ho16 (Kd.R_lt (rq_ HO1327.out))) (Kd.R_lt (rq_ HO1333.out))) (below_size (hb_ HB.out)))
      have n3_ := Aside0.mk (bb_ BK1320.out hb)
      have n4_ := Aside0.mk (bb_ BK1321.out hb)
      have n5_ := Aside0.mk (below_step (hb_ HB.out) hb)
      clear HO1327; clear HO1333
      clear BK1320; clear BK1321
      clear HB
      have HO1327 := n0_
      have HO1333 := n1_
      have HO1336 := n2_
      have BK1320 := n3_
      have BK1321 := n4_
      have HB := n5_
      clear n0_ n1_ n2_ n3_ n4_ n5_; clear hb ho16
      refine hK.out _ _ ⟨(blk_cell BK1320.out 0).trans rfl, (blk_cell BK1320.out 1).trans rfl, (blk_cell BK1320.out 2).trans rfl, (blk_cell BK1320.out 3).trans rfl⟩ (fun hHeld => ?_)
      clear hK K
      refine norm_ (a' := ?_) ?_ ?_
      rotate_left
      ·
       show Act.put _ (some 13) _ = _
       simp only [Act.put, List.setIfInBounds_toArray, List.set_cons_zero, List.set_cons_succ, i64_w, i32_w]
       rfl
      exact norm_ (by first | (simp only [putAll, Act.put, List.setIfInBounds_toArray, List.set_cons_zero, List.set_cons_succ]; done) | (simp only [putAll, Act.put, List.setIfInBounds_toArray, List.set_cons_zero, List.set_cons_succ]; rfl)) (hJ2_5_6_9_10 (v1323, v1326, v1329, v1332, v1335) _ ⟨hHeld, (rq_ HO1327.out), (rq_ HO1333.out), (rm_ HO1336.out), (bq_ BK1320.out), (bq_ BK1321.out), (hb_ HB.out)⟩)
    rintro ⟨v1323, v1326, v1329, v1332, v1335⟩ w16 ⟨hS_, h0_, h1_, h2_, h3_, h4_, h5_⟩
    have n0_ : Aside0 (Kd.R (Kd.int .i64) 3 w16 w.heap.size (fun k_ => some k_ ≠ (v1332 : Value).ownBlock ∧ some k_ ≠ (v1335 : Value).ownBlock) v1326 y1325) := ⟨h0_⟩
    have n1_ : Aside0 (Kd.R (Kd.int .i64) 3 w16 w.heap.size (fun k_ => some k_ ≠ (v1326 : Value).ownBlock ∧ some k_ ≠ (v1335 : Value).ownBlock) v1332 y1331) := ⟨h1_⟩
    have n2_ : Aside0 (Kd.R (Kd.int .i64) 3 w16 w.heap.size (fun k_ => some k_ ≠ (v1326 : Value).ownBlock ∧ some k_ ≠ (v1332 : Value).ownBlock) v1335 y1334) := ⟨h2_⟩
    have n3_ : Aside0 (w16.heap[gb1320]? = some (.cells #[.int .i64 a0_0, .slice A0_1 l0_1.length c0_1, .slice A0_2 l0_2.length c0_2, .slice A0_3 l0_3.length c0_3] 26 (0, 0))) := ⟨h3_⟩
    have n4_ : Aside0 (w16.heap[gb1321]? = some (.cells #[.int .i64 0, .slice none 0 0, .slice none 0 0, .slice none 0 0] 26 (0, 0))) := ⟨h4_⟩
    have n5_ : Aside0 (Below w.heap.size w w16) := ⟨h5_⟩
    clear BK1320; clear BK1321
    clear HB; clear h0_ h1_ h2_ h3_ h4_ h5_
    have HO1327 := n0_
    have HO1333 := n1_
    have HO1336 := n2_
    have BK1320 := n3_
    have BK1321 := n4_
    have HB := n5_
    clear n0_ n1_ n2_ n3_ n4_ n5_
    have hHeld : w16.cell? ⟨gb1320, 0, none⟩ = some (.int .i64 a0_0) ∧ w16.cell? ⟨gb1320, 1, none⟩ = some (.slice A0_1 l0_1.length c0_1) ∧ w16.cell? ⟨gb1320, 2, none⟩ = some (.slice A0_2 l0_2.length c0_2) ∧ w16.cell? ⟨gb1320, 3, none⟩ = some (.slice A0_3 l0_3.length c0_3) := hS_
    refine norm_ (a' := ?_) ?_ ?_
    rotate_left; (focus simp only [putAll, Act.put, List.setIfInBounds_toArray, List.set_cons_zero, List.set_cons_succ]; rfl)
    refine one_ (i := 13) (N := some 16) #[true, true, true, true, true, true, true, true, true, true, true, true, true, true, false, false] rfl rfl (one_of HT_.out (by kernel_rfl)) (by decide) (fun K hK => ?_)
    refine Kd.R_append_rows_step (Kd.int .i64) (w0 := w) w.heap.size (by rfl) (.tmp 13) (.tmp 15) 24 3 (.int .i64 0) 8 rfl Try.underlying24 info3 rfl (by decide) (by omega) v1335 y1334 l0_3 _ _ _ (fun k_ => some k_ ≠ (v1326 : Value).ownBlock ∧ some k_ ≠ (v1332 : Value).ownBlock) (fun _ => False) rfl rfl ?aO ?aR (fun _ _ h => h) (fun _ h => h.elim) ?aF ?aB ?aS ?aL ?_
    (case aR => repeat (first | exact (Kd.C_below HR0_3.out HB.out) | (with_reducible refine Kd.C_alloc ?_ _) | (with_reducible refine Kd.C_drewN ?_ _) | (with_reducible refine Kd.C_drew ?_)))
    (case aB => exact (hb_ HB.out))
    (case aF => exact (fun k_ hk => ⟨Kd.fresh' (Kd.R_lt (rq_ HO1327.out)) k_ hk, Kd.fresh' (Kd.R_lt (rq_ HO1333.out)) k_ hk⟩))
    (case aO => exact (rq_ HO1336.out))
    (case aS => exact (below_size (hb_ HB.out)))
    (case aL => have := LMc4.out; omega)
    intro v1338 w17 ho hb hg hat
    rw [← Ny1337.out] at ho
    have n0_ := Aside0.mk (blk_grown (g := gb1320) (o := .cells #[.int .i64 a0_0, .slice A0_1 l0_1.length c0_1, .slice A0_2 l0_2.length c0_2, .slice A0_3 l0_3.length c0_3] 26 (0, 0)) (bq_ BK1320.out) hg (Kd.R_ne HO1336.out BK1320.out (by decide)))
    have n1_ := Aside0.mk (blk_grown (g := gb1321) (o := .cells #[.int .i64 0, .slice none 0 0, .slice none 0 0, .slice none 0 0] 26 (0, 0)) (bq_ BK1321.out) hg (Kd.R_ne HO1336.out BK1321.out (by decide)))
    have n2_ := Aside0.mk (Kd.R_after (ok := (fun k_ => some k_ ≠ (v1332 : Value).ownBlock)) (rq_ HO1327.out) hg hat)
    have n3_ := Aside0.mk (Kd.R_after (ok := (fun k_ => some k_ ≠ (v1326 : Value).ownBlock)) (rq_ HO1333.out) hg hat)
    have n4_ := Aside0.mk (hb)
    have n5_ := Aside0.mk (ho)
    clear BK1320; clear BK1321
    clear HO1327; clear HO1333
    clear HB; clear HO1336
    have BK1320 := n0_
    have BK1321 := n1_
    have HO1327 := n2_
    have HO1333 := n3_
    have HB := n4_
    have HO1339 := n5_
    clear n0_ n1_ n2_ n3_ n4_ n5_; clear ho hb hg hat
    obtain ⟨Ao18, co18, eo18⟩ := Kd.R_slice HO1339.out
    (first | subst eo18 | (injection eo18 with f1_ f2_ f3_; have f4_ := f1_.symm; have f5_ := f3_.symm; clear f1_ f2_ f3_; subst f4_; subst f5_))
    obtain ⟨Ao19, co19, eo19⟩ := Kd.R_slice HO1333.out
    (first | subst eo19 | (injection eo19 with f1_ f2_ f3_; have f4_ := f1_.symm; have f5_ := f3_.symm; clear f1_ f2_ f3_; subst f4_; subst f5_))
    obtain ⟨Ao20, co20, eo20⟩ := Kd.R_slice HO1327.out
    (first | subst eo20 | (injection eo20 with f1_ f2_ f3_; have f4_ := f1_.symm; have f5_ := f3_.symm; clear f1_ f2_ f3_; subst f4_; subst f5_))
    refine hK.out _ _ ⟨(blk_cell BK1320.out 0).trans rfl, (blk_cell BK1320.out 1).trans rfl, (blk_cell BK1320.out 2).trans rfl, (blk_cell BK1320.out 3).trans rfl⟩ (fun hHeld => ?_)
    clear hK K
    refine norm_ (a' := ?_) ?_ ?_
    rotate_left
    ·
     show Act.put _ (some 16) _ = _
     simp only [Act.put, List.setIfInBounds_toArray, List.set_cons_zero, List.set_cons_succ, i64_w, i32_w]
     rfl
    refine pI_ 14 17 HT_ #[true, true, true, true, true, true, true, true, true, true, true, true, true, true, true, false] rfl rfl ?_
    refine one_ (i := 15) (N := none) #[true, true, true, true, true, true, true, true, true, true, true, true, true, true, true, true] rfl rfl (one_of HT_.out (by kernel_rfl)) (by decide) (fun K hK => ?_)
    have hs21 : w17.cell? ⟨gb1321, 0, none⟩ = some (.int .i64 0) := (blk_cell BK1321.out 0).trans rfl
    have hfs21 := blk_frozen BK1321.out 0
    have hns21_0 := NB1320_1321.out
    have hms21_0 := NB1321_1320.out
    have hs22 : w17.cell? ⟨gb1321, 1, none⟩ = some (.slice none 0 0) := (blk_cell BK1321.out 1).trans rfl
    have hfs22 := blk_frozen BK1321.out 1
    have hns22_0 := NB1320_1321.out
    have hms22_0 := NB1321_1320.out
    have hs23 : w17.cell? ⟨gb1321, 2, none⟩ = some (.slice none 0 0) := (blk_cell BK1321.out 2).trans rfl
    have hfs23 := blk_frozen BK1321.out 2
    have hns23_0 := NB1320_1321.out
    have hms23_0 := NB1321_1320.out
    have hs24 : w17.cell? ⟨gb1321, 3, none⟩ = some (.slice none 0 0) := (blk_cell BK1321.out 3).trans rfl
    have hfs24 := blk_frozen BK1321.out 3
    have hns24_0 := NB1320_1321.out
    have hms24_0 := NB1321_1320.out
    refine skip_ (w1 := ?_) (by rfl) rfl ?_ ?_
    rotate_left; (focus go_simp; rfl)
    refine hK.out _ _ ⟨((cell_far (p := ⟨gb1321, _, none⟩) NB1320_1321.out _).trans (((cell_far (p := ⟨gb1321, _, none⟩) NB1320_1321.out _).trans (((cell_far (p := ⟨gb1321, _, none⟩) NB1320_1321.out _).trans (((cell_far (p := ⟨gb1321, _, none⟩) NB1320_1321.out _).trans (hHeld.1)))))))), ((cell_far (p := ⟨gb1321, _, none⟩) NB1320_1321.out _).trans (((cell_far (p := ⟨gb1321, _, none⟩) NB1320_1321.out _).trans (((cell_far (p := ⟨gb1321, _, none⟩) NB1320_1321.out _).trans (((cell_far (p := ⟨gb1321, _, none⟩) NB1320_1321.out _).trans (hHeld.2.1)))))))), ((cell_far (p := ⟨gb1321, _, none⟩) NB1320_1321.out _).trans (((cell_far (p := ⟨gb1321, _, none⟩) NB1320_1321.out _).trans (((cell_far (p := ⟨gb1321, _, none⟩) NB1320_1321.out _).trans (((cell_far (p := ⟨gb1321, _, none⟩) NB1320_1321.out _).trans (hHeld.2.2.1)))))))), ((cell_far (p := ⟨gb1321, _, none⟩) NB1320_1321.out _).trans (((cell_far (p := ⟨gb1321, _, none⟩) NB1320_1321.out _).trans (((cell_far (p := ⟨gb1321, _, none⟩) NB1320_1321.out _).trans (((cell_far (p := ⟨gb1321, _, none⟩) NB1320_1321.out _).trans (hHeld.2.2.2))))))))⟩ (fun hHeld => ?_)
    clear hK K
    refine done_ (done_of HT_.out (by kernel_rfl)) ?_
    try go_wp2
    refine bodyPost_ret (results_cell_row rfl _ _ gb1321 26 #[.int .i64 a0_0, .slice Ao20 y1325.length co20, .slice Ao19 y1331.length co19, .slice Ao18 y1337.length co18] (0, 0) _ rfl (bp_ BK1321.out) Try.underlying26 rfl (by kernel_rfl)) rfl ?_
    exact ⟨_, _, _, er_, by (with_reducible repeat (first | apply Kd.R_alloc | apply Kd.R_drewN | apply Kd.R_drew)); exact Kd.R_mono (Kd.R_far (p := ⟨gb1321, 3, none⟩) (Kd.R_far (p := ⟨gb1321, 2, none⟩) (Kd.R_far (p := ⟨gb1321, 1, none⟩) (Kd.R_far (p := ⟨gb1321, 0, none⟩) (Kd.R_types HO1327.out BK1321.out (by decide)) (fun _ hk => hk.2) (.int .i64 a0_0)) (fun _ hk => hk.2) (.slice Ao20 y1325.length co20)) (fun _ hk => hk.2) (.slice Ao19 y1331.length co19)) (fun _ hk => hk.2) (.slice Ao18 y1337.length co18)) (fun _ hk => ⟨hk.1.1, hk.1.2⟩), by (with_reducible repeat (first | apply Kd.R_alloc | apply Kd.R_drewN | apply Kd.R_drew)); exact Kd.R_mono (Kd.R_far (p := ⟨gb1321, 3, none⟩) (Kd.R_far (p := ⟨gb1321, 2, none⟩) (Kd.R_far (p := ⟨gb1321, 1, none⟩) (Kd.R_far (p := ⟨gb1321, 0, none⟩) (Kd.R_types HO1333.out BK1321.out (by decide)) (fun _ hk => hk.2) (.int .i64 a0_0)) (fun _ hk => hk.2) (.slice Ao20 y1325.length co20)) (fun _ hk => hk.2) (.slice Ao19 y1331.length co19)) (fun _ hk => hk.2) (.slice Ao18 y1337.length co18)) (fun _ hk => ⟨hk.1.1, hk.1.2⟩), by (with_reducible repeat (first | apply Kd.R_alloc | apply Kd.R_drewN | apply Kd.R_drew)); exact Kd.R_mono (Kd.R_far (p := ⟨gb1321, 3, none⟩) (Kd.R_far (p := ⟨gb1321, 2, none⟩) (Kd.R_far (p := ⟨gb1321, 1, none⟩) (Kd.R_far (p := ⟨gb1321, 0, none⟩) (Kd.R_types HO1339.out BK1321.out (by decide)) (fun _ hk => hk.2) (.int .i64 a0_0)) (fun _ hk => hk.2) (.slice Ao20 y1325.length co20)) (fun _ hk => hk.2) (.slice Ao19 y1331.length co19)) (fun _ hk => hk.2) (.slice Ao18 y1337.length co18)) (fun _ hk => ⟨hk.1.1, hk.1.2⟩), hb_ HB.out⟩
   ·
    rw [if_neg c4] at H
    exact absurd H (by simp)
  ·
   rw [if_neg c3] at H
   exact absurd H (by simp)
 ·
  rw [if_neg c2] at H
  exact absurd H (by simp)
/-! ### spec_GroupMark: function 15 -/
def spec_GroupMark.j0 : Nat → Int → Int → Bool → Int → List Int → List Int → List Int → Option (Int × List Int × List Int × List Int × Bool)
 | 0, _, _, _, _, _, _, _ => none
 | k + 1, x3, x4, x43, x1353000, x1353001, x1353002, x1353003 => if x43 = true then (some (x1353000, x1353001, x1353002, x1353003, false)) else (if 0 ≤ x3 then (if x3 < (x1353003.length : Int) then (some (x1353000, x1353001, x1353002, (x1353003.set (x3 : Int).toNat x4), true)) else (none)) else (none))
def spec_GroupMark.f (k : Nat) (a0_0 : Int) (l0_1 : List Int) (l0_2 : List Int) (l0_3 : List Int) (a1 : Int) (a2 : Int) (a3 : Int) (a4 : Int) : Option (Int × List Int × List Int × List Int × Bool) := (spec_l5Copy.f a0_0 l0_1 l0_2 l0_3).bind fun bt1342 => (if a2 = a0_0 then ((spec_l1In.f a3 0 (wrap64 ((l0_3.length : Int) - 1))).bind fun t1353 => (if t1353 = true then ((spec_OwnerOf.f a0_0 l0_1 l0_2 l0_3 a3).bind fun t1354 => (if t1354 = a1 then (if 0 ≤ a3 then (if a3 < (l0_3.length : Int) then (spec_GroupMark.j0 k a3 a4 (decide (a4 < (rd l0_3 a3))) bt1342.1 bt1342.2.1 bt1342.2.2.1 bt1342.2.2.2) else (none)) else (none)) else (spec_GroupMark.j0 k a3 a4 true bt1342.1 bt1342.2.1 bt1342.2.2.1 bt1342.2.2.2))) else (spec_GroupMark.j0 k a3 a4 true bt1342.1 bt1342.2.1 bt1342.2.2.1 bt1342.2.2.2))) else (spec_GroupMark.j0 k a3 a4 true bt1342.1 bt1342.2.1 bt1342.2.2.1 bt1342.2.2.2))
theorem spec_GroupMark.mono_l : ∀ k, (∀ y0 y1 y2 y3 y4 y5 y6, LeO (spec_GroupMark.j0 k y0 y1 y2 y3 y4 y5 y6) (spec_GroupMark.j0 (k + 1) y0 y1 y2 y3 y4 y5 y6))
 | 0 => fun _ _ _ _ _ _ _ r h => by simp [spec_GroupMark.j0] at h
 | k + 1 => by
  have ih0 := spec_GroupMark.mono_l k
  ·
   intro y0 y1 y2 y3 y4 y5 y6
   unfold spec_GroupMark.j0
   repeat' first
   | (with_reducible exact ih0 _ _ _ _ _ _ _)
   | (with_reducible exact LeO.refl _)
   | (with_reducible exact LeO.none _)
   | (with_reducible refine LeO.ite ?_ ?_)
   | (with_reducible refine LeO.bind ?_ (fun _ => ?_))
   | exact ih0 _ _ _ _ _ _ _
   | exact LeO.none _
   | refine LeO.ite ?_ ?_
   | refine LeO.bind ?_ (fun _ => ?_)
theorem spec_GroupMark.mono : ∀ a0 a1 a2 a3 a4 a5 a6 a7 k, LeO (spec_GroupMark.f k a0 a1 a2 a3 a4 a5 a6 a7) (spec_GroupMark.f (k + 1) a0 a1 a2 a3 a4 a5 a6 a7) := by
 intro a0 a1 a2 a3 a4 a5 a6 a7 k
 have ih0 := spec_GroupMark.mono_l k
 unfold spec_GroupMark.f
 repeat' first
  | (with_reducible exact ih0 _ _ _ _ _ _ _)
  | (with_reducible exact LeO.refl _)
  | (with_reducible exact LeO.none _)
  | (with_reducible refine LeO.ite ?_ ?_)
  | (with_reducible refine LeO.bind ?_ (fun _ => ?_))
  | exact ih0 _ _ _ _ _ _ _
  | exact LeO.none _
  | refine LeO.ite ?_ ?_
  | refine LeO.bind ?_ (fun _ => ?_)
set_option maxHeartbeats 8000000 in
set_option maxRecDepth 100000 in
theorem spec_GroupMark.calls (k : Nat) (a0_0 : Int) (A0_1 : Option Addr) (c0_1 : Nat) (l0_1 : List Int) (A0_2 : Option Addr) (c0_2 : Nat) (l0_2 : List Int) (A0_3 : Option Addr) (c0_3 : Nat) (l0_3 : List Int) (a1 : Int) (a2 : Int) (a3 : Int) (a4 : Int) (r1 : Int) (r2 : List Int) (r3 : List Int) (r4 : List Int) (r5 : Bool) (w : World) (hr0_1 : Kd.C (Kd.int .i64) w A0_1 l0_1.length l0_1) (hc0_1 : l0_1.length ≤ c0_1) (hr0_2 : Kd.C (Kd.int .i64) w A0_2 l0_2.length l0_2) (hc0_2 : l0_2.length ≤ c0_2) (hr0_3 : Kd.C (Kd.int .i64) w A0_3 l0_3.length l0_3) (hc0_3 : l0_3.length ≤ c0_3) (h : spec_GroupMark.f k a0_0 l0_1 l0_2 l0_3 a1 a2 a3 a4 = some (r1, r2, r3, r4, r5)) :
 Calls Try.prog 15 #[.agg #[.int .i64 a0_0, .slice A0_1 l0_1.length c0_1, .slice A0_2 l0_2.length c0_2, .slice A0_3 l0_3.length c0_3], .int .i64 a1, .int .i64 a2, .int .i64 a3, .int .i64 a4] w fun e w' => ∃ v1_ v2_ v3_ : Value, e = .returned (.tuple #[.agg #[.int .i64 r1, v1_, v2_, v3_], .bool r5]) ∧ Kd.R (Kd.int .i64) 3 w' w.heap.size (fun k_ => some k_ ≠ (v2_ : Value).ownBlock ∧ some k_ ≠ (v3_ : Value).ownBlock) v1_ r2 ∧ Kd.R (Kd.int .i64) 3 w' w.heap.size (fun k_ => some k_ ≠ (v1_ : Value).ownBlock ∧ some k_ ≠ (v3_ : Value).ownBlock) v2_ r3 ∧ Kd.R (Kd.int .i64) 3 w' w.heap.size (fun k_ => some k_ ≠ (v1_ : Value).ownBlock ∧ some k_ ≠ (v2_ : Value).ownBlock) v3_ r4 ∧ Below w.heap.size w w' := by
 have hu26 := Try.underlying26
 have HR0_1 := Aside0.mk hr0_1
 have HC0_1 := Aside0.mk hc0_1
 clear hr0_1 hc0_1
 have HR0_2 := Aside0.mk hr0_2
 have HC0_2 := Aside0.mk hc0_2
 clear hr0_2 hc0_2
 have HR0_3 := Aside0.mk hr0_3
 have HC0_3 := Aside0.mk hc0_3
 clear hr0_3 hc0_3
 have HB := Aside0.mk (Below.refl w.heap.size w)
 have H : ((spec_l5Copy.f a0_0 l0_1 l0_2 l0_3).bind fun bt1342 => (if a2 = a0_0 then ((spec_l1In.f a3 0 (wrap64 ((l0_3.length : Int) - 1))).bind fun t1353 => (if t1353 = true then ((spec_OwnerOf.f a0_0 l0_1 l0_2 l0_3 a3).bind fun t1354 => (if t1354 = a1 then (if 0 ≤ a3 then (if a3 < (l0_3.length : Int) then (spec_GroupMark.j0 k a3 a4 (decide (a4 < (rd l0_3 a3))) bt1342.1 bt1342.2.1 bt1342.2.2.1 bt1342.2.2.2) else (none)) else (none)) else (spec_GroupMark.j0 k a3 a4 true bt1342.1 bt1342.2.1 bt1342.2.2.1 bt1342.2.2.2))) else (spec_GroupMark.j0 k a3 a4 true bt1342.1 bt1342.2.1 bt1342.2.2.1 bt1342.2.2.2))) else (spec_GroupMark.j0 k a3 a4 true bt1342.1 bt1342.2.1 bt1342.2.2.1 bt1342.2.2.2))) = some (r1, r2, r3, r4, r5) := h
 clear h
 replace H := Option.bind_eq_some_iff.mp H
 obtain ⟨⟨t1342, t1343, t1346, t1349⟩, A60, H⟩ := H
 replace H : (if a2 = a0_0 then ((spec_l1In.f a3 0 (wrap64 ((l0_3.length : Int) - 1))).bind fun t1353 => (if t1353 = true then ((spec_OwnerOf.f a0_0 l0_1 l0_2 l0_3 a3).bind fun t1354 => (if t1354 = a1 then (if 0 ≤ a3 then (if a3 < (l0_3.length : Int) then (spec_GroupMark.j0 k a3 a4 (decide (a4 < (rd l0_3 a3))) t1342 t1343 t1346 t1349) else (none)) else (none)) else (spec_GroupMark.j0 k a3 a4 true t1342 t1343 t1346 t1349))) else (spec_GroupMark.j0 k a3 a4 true t1342 t1343 t1346 t1349))) else (spec_GroupMark.j0 k a3 a4 true t1342 t1343 t1346 t1349)) = some (r1, r2, r3, r4, r5) := H
 have A6 := Aside0.mk A60
 clear A60
 have HC7 := Aside0.mk H
 clear H
 go_enter Try.func15, Try.ntmps15
 go_upto_region 2 with (first | ((with_reducible refine gate_dst (N := 5) rfl ?_); (try (refine gate_guard (by rfl) ?_; dsimp only)); refine box_event ?hg (N := 5) ?hd (cs := #[.int .i64 a0_0, .slice A0_1 l0_1.length c0_1, .slice A0_2 l0_2.length c0_2, .slice A0_3 l0_3.length c0_3]) (t := 26) ?hr ?_; (case hd => rfl); (case hg => rfl); (case hr => first | (go_simp; done) | (go_simp; rfl)); intro gb1340 hg w8 hbox hb; have n0_ := Aside0.mk (below_step (hb_ HB.out) hb); have n1_ := Aside0.mk (hbox); have n2_ := Aside0.mk ((by rw [hg]; exact (below_size (hb_ HB.out)) : w.heap.size ≤ gb1340)); have n3_ := Aside0.mk ((by rw [hg]; exact (below_size (hb_ HB.out)) : w.heap.size ≤ gb1340)); clear HB; have HB := n0_; have BK1340 := n1_; have GW1340 := n2_; have GE1340 := n3_; clear n0_ n1_ n2_ n3_; clear hb hbox hg) | ((with_reducible refine gate_dst (N := 10) rfl ?_); (try (refine gate_guard (by rfl) ?_; dsimp only)); refine box_event ?hg (N := 10) ?hd (cs := #[.int .i64 0, .slice none 0 0, .slice none 0 0, .slice none 0 0]) (t := 26) ?hr ?_; (case hd => rfl); (case hg => rfl); (case hr => first | (go_simp; done) | (go_simp; rfl)); intro gb1341 hg w9 hbox hb; have n0_ := Aside0.mk (bb_ BK1340.out hb); have n1_ := Aside0.mk (below_step (hb_ HB.out) hb); have n2_ := Aside0.mk (hbox); have n3_ := Aside0.mk ((by rw [hg]; exact (below_size (hb_ HB.out)) : w.heap.size ≤ gb1341)); have n4_ := Aside0.mk ((by rw [hg]; exact (below_size (hb_ HB.out)) : w.heap.size ≤ gb1341)); have n5_ := Aside0.mk ((nl_ BK1340.out hg : gb1340 ≠ gb1341)); have n6_ := Aside0.mk ((ng_ BK1340.out hg : gb1341 ≠ gb1340)); clear BK1340; clear HB; have BK1340 := n0_; have HB := n1_; have BK1341 := n2_; have GW1341 := n3_; have GE1341 := n4_; have NB1340_1341 := n5_; have NB1341_1340 := n6_; clear n0_ n1_ n2_ n3_ n4_ n5_ n6_; clear hb hbox hg; have hnb10 := NB1340_1341.out; have hnc10 := NB1341_1340.out; have hcz11_0 : w9.cell? ⟨gb1340, 0, none⟩ = some (.int .i64 a0_0) := (blk_cell BK1340.out 0).trans rfl; have hcz11_1 : w9.cell? ⟨gb1340, 1, none⟩ = some (.slice A0_1 l0_1.length c0_1) := (blk_cell BK1340.out 1).trans rfl; have hcz11_2 : w9.cell? ⟨gb1340, 2, none⟩ = some (.slice A0_2 l0_2.length c0_2) := (blk_cell BK1340.out 2).trans rfl; have hcz11_3 : w9.cell? ⟨gb1340, 3, none⟩ = some (.slice A0_3 l0_3.length c0_3) := (blk_cell BK1340.out 3).trans rfl; have hfz11_0 := blk_frozen BK1340.out 0; have hfz11_1 := blk_frozen BK1340.out 1; have hfz11_2 := blk_frozen BK1340.out 2; have hfz11_3 := blk_frozen BK1340.out 3) | ((with_reducible refine gate_callee (f := 83) rfl ?_); refine goesL_ (some 14) rfl rfl Try.func83 (by kernel_rfl) rfl #[.agg #[.int .i64 a0_0, .slice A0_1 l0_1.length c0_1, .slice A0_2 l0_2.length c0_2, .slice A0_3 l0_3.length c0_3]] rfl sm_ ?_; (with_reducible refine (spec_l5Copy.calls a0_0 _ _ l0_1 _ _ l0_2 _ _ l0_3 t1342 t1343 t1346 t1349 _ ?side1 ?side2 ?side3 ?side4 ?side5 ?side6 A6.out).mono ?_); (case side1 => repeat (first | exact (Kd.C_below HR0_1.out HB.out) | (with_reducible refine Kd.C_alloc ?_ _) | (with_reducible refine Kd.C_drewN ?_ _) | (with_reducible refine Kd.C_drew ?_))); (case side2 => exact HC0_1.out); (case side3 => repeat (first | exact (Kd.C_below HR0_2.out HB.out) | (with_reducible refine Kd.C_alloc ?_ _) | (with_reducible refine Kd.C_drewN ?_ _) | (with_reducible refine Kd.C_drew ?_))); (case side4 => exact HC0_2.out); (case side5 => repeat (first | exact (Kd.C_below HR0_3.out HB.out) | (with_reducible refine Kd.C_alloc ?_ _) | (with_reducible refine Kd.C_drewN ?_ _) | (with_reducible refine Kd.C_drew ?_))); (case side6 => exact HC0_3.out); rintro e w12 ⟨v1344, v1347, v1350, rfl, ho0, ho1, ho2, hb⟩; refine ⟨_, rfl, ?_⟩; have n0_ := Aside0.mk (Kd.R_lower ho0 (below_size (hb_ HB.out))); have n1_ := Aside0.mk (Kd.R_lower ho1 (below_size (hb_ HB.out))); have n2_ := Aside0.mk (Kd.R_lower ho2 (below_size (hb_ HB.out))); have n3_ := Aside0.mk (bb_ BK1340.out hb); have n4_ := Aside0.mk (bb_ BK1341.out hb); have n5_ := Aside0.mk (below_step (hb_ HB.out) hb); clear BK1340; clear BK1341; clear HB; have HO1345 := n0_; have HO1348 := n1_; have HO1351 := n2_; have BK1340 := n3_; have BK1341 := n4_; have HB := n5_; clear n0_ n1_ n2_ n3_ n4_ n5_; (try clear hb); (try clear hb2); (try clear hk); (try clear hi); (try clear ho0); (try clear ho1); (try clear ho2)) | ((with_reducible refine gate_dst (N := 12) rfl ?_); (try (refine gate_guard (by rfl) ?_; dsimp only)); refine box_event ?hg (N := 12) ?hd (cs := #[.int .i64 0, .slice none 0 0, .slice none 0 0, .slice none 0 0]) (t := 26) ?hr ?_; (case hd => rfl); (case hg => rfl); (case hr => first | (go_simp; done) | (go_simp; rfl)); intro gb1352 hg w13 hbox hb; have n0_ := Aside0.mk (Kd.R_below (rq_ HO1345.out) hb); have n1_ := Aside0.mk (Kd.R_below (rq_ HO1348.out) hb); have n2_ := Aside0.mk (Kd.R_below (rq_ HO1351.out) hb); have n3_ := Aside0.mk (bb_ BK1340.out hb); have n4_ := Aside0.mk (bb_ BK1341.out hb); have n5_ := Aside0.mk (below_step (hb_ HB.out) hb); have n6_ := Aside0.mk (hbox); have n7_ := Aside0.mk ((by rw [hg]; exact (below_size (hb_ HB.out)) : w.heap.size ≤ gb1352)); have n8_ := Aside0.mk ((by rw [hg]; exact (below_size (hb_ HB.out)) : w.heap.size ≤ gb1352)); have n9_ := Aside0.mk ((nl_ BK1340.out hg : gb1340 ≠ gb1352)); have n10_ := Aside0.mk ((ng_ BK1340.out hg : gb1352 ≠ gb1340)); have n11_ := Aside0.mk ((nl_ BK1341.out hg : gb1341 ≠ gb1352)); have n12_ := Aside0.mk ((ng_ BK1341.out hg : gb1352 ≠ gb1341)); clear HO1345; clear HO1348; clear HO1351; clear BK1340; clear BK1341; clear HB; have HO1345 := n0_; have HO1348 := n1_; have HO1351 := n2_; have BK1340 := n3_; have BK1341 := n4_; have HB := n5_; have BK1352 := n6_; have GW1352 := n7_; have GE1352 := n8_; have NB1340_1352 := n9_; have NB1352_1340 := n10_; have NB1341_1352 := n11_; have NB1352_1341 := n12_; clear n0_ n1_ n2_ n3_ n4_ n5_ n6_ n7_ n8_ n9_ n10_ n11_ n12_; clear hb hbox hg; have hnb14 := NB1352_1340.out; have hnc14 := NB1340_1352.out; have hnb15 := NB1352_1341.out; have hnc15 := NB1341_1352.out; have hcz16_0 : w13.cell? ⟨gb1352, 0, none⟩ = some (.int .i64 0) := (blk_cell BK1352.out 0).trans rfl; have hcz16_1 : w13.cell? ⟨gb1352, 1, none⟩ = some (.slice none 0 0) := (blk_cell BK1352.out 1).trans rfl; have hcz16_2 : w13.cell? ⟨gb1352, 2, none⟩ = some (.slice none 0 0) := (blk_cell BK1352.out 2).trans rfl; have hcz16_3 : w13.cell? ⟨gb1352, 3, none⟩ = some (.slice none 0 0) := (blk_cell BK1352.out 3).trans rfl; have hfz16_0 := blk_frozen BK1352.out 0; have hfz16_1 := blk_frozen BK1352.out 1; have hfz16_2 := blk_frozen BK1352.out 2; have hfz16_3 := blk_frozen BK1352.out 3; obtain ⟨Ao17, co17, eo17⟩ := Kd.R_slice HO1345.out; subst eo17; obtain ⟨Ao18, co18, eo18⟩ := Kd.R_slice HO1348.out; subst eo18; obtain ⟨Ao19, co19, eo19⟩ := Kd.R_slice HO1351.out; subst eo19))
 (try simp only [Act.put, List.setIfInBounds_toArray, List.set_cons_zero, List.set_cons_succ])
 go_cut [43] (fun v43 wc => ∃ (kq : Nat) (x43_6 : Bool), v43 = .bool x43_6 ∧ Aside0 (spec_GroupMark.j0 kq a3 a4 x43_6 t1342 t1343 t1346 t1349 = some (r1, r2, r3, r4, r5)) ∧ Aside0 (kq ≤ k) ∧ Aside0 (Kd.R (Kd.int .i64) 3 wc w.heap.size (fun k_ => some k_ ≠ ((.slice Ao18 t1346.length co18) : Value).ownBlock ∧ some k_ ≠ ((.slice Ao19 t1349.length co19) : Value).ownBlock) (.slice Ao17 t1343.length co17) t1343) ∧ Aside0 (Kd.R (Kd.int .i64) 3 wc w.heap.size (fun k_ => some k_ ≠ ((.slice Ao17 t1343.length co17) : Value).ownBlock ∧ some k_ ≠ ((.slice Ao19 t1349.length co19) : Value).ownBlock) (.slice Ao18 t1346.length co18) t1346) ∧ Aside0 (Kd.R (Kd.int .i64) 3 wc w.heap.size (fun k_ => some k_ ≠ ((.slice Ao17 t1343.length co17) : Value).ownBlock ∧ some k_ ≠ ((.slice Ao18 t1346.length co18) : Value).ownBlock) (.slice Ao19 t1349.length co19) t1349) ∧ Aside0 (wc.heap[gb1340]? = some (.cells #[.int .i64 a0_0, (.slice A0_1 l0_1.length c0_1), (.slice A0_2 l0_2.length c0_2), (.slice A0_3 l0_3.length c0_3)] 26 (0, 0))) ∧ Aside0 (wc.heap[gb1341]? = some (.cells #[.int .i64 0, (.slice none 0 0), (.slice none 0 0), (.slice none 0 0)] 26 (0, 0))) ∧ Aside0 (wc.heap[gb1352]? = some (.cells #[.int .i64 t1342, (.slice Ao17 t1343.length co17), (.slice Ao18 t1346.length co18), (.slice Ao19 t1349.length co19)] 26 (0, 0))) ∧ Aside0 (Below w.heap.size w wc))
 case first =>
  have H := HC7.out
  clear HC7
  by_cases c20 : a2 = a0_0
  ·
   rw [if_pos c20] at H
   have c20b0 : (a2 == a0_0) = true := beq_iff_eq.mpr c20
   have c20b1 : (a2 != a0_0) = false := bne_eq_false_iff_eq.mpr c20
   clear c20
   (first | rw [c20b0] | (simp only [i64_w, i32_w]; rw [c20b0]) | rw [c20b4] | rw [c20b3] | skip)
   replace H := Option.bind_eq_some_iff.mp H
   obtain ⟨t1353, A210, H⟩ := H
   replace H : (if t1353 = true then ((spec_OwnerOf.f a0_0 l0_1 l0_2 l0_3 a3).bind fun t1354 => (if t1354 = a1 then (if 0 ≤ a3 then (if a3 < (l0_3.length : Int) then (spec_GroupMark.j0 k a3 a4 (decide (a4 < (rd l0_3 a3))) t1342 t1343 t1346 t1349) else (none)) else (none)) else (spec_GroupMark.j0 k a3 a4 true t1342 t1343 t1346 t1349))) else (spec_GroupMark.j0 k a3 a4 true t1342 t1343 t1346 t1349)) = some (r1, r2, r3, r4, r5) := H
   have A21 := Aside0.mk A210
   clear A210
   by_cases c22 : t1353 = true
   ·
    subst c22
    have H1 : ((spec_OwnerOf.f a0_0 l0_1 l0_2 l0_3 a3).bind fun t1354 => (if t1354 = a1 then (if 0 ≤ a3 then (if a3 < (l0_3.length : Int) then (spec_GroupMark.j0 k a3 a4 (decide (a4 < (rd l0_3 a3))) t1342 t1343 t1346 t1349) else (none)) else (none)) else (spec_GroupMark.j0 k a3 a4 true t1342 t1343 t1346 t1349))) = some (r1, r2, r3, r4, r5) := by rw [if_pos rfl] at H; exact H
    clear H
    have H := H1
    clear H1
    replace H := Option.bind_eq_some_iff.mp H
    obtain ⟨t1354, A230, H⟩ := H
    replace H : (if t1354 = a1 then (if 0 ≤ a3 then (if a3 < (l0_3.length : Int) then (spec_GroupMark.j0 k a3 a4 (decide (a4 < (rd l0_3 a3))) t1342 t1343 t1346 t1349) else (none)) else (none)) else (spec_GroupMark.j0 k a3 a4 true t1342 t1343 t1346 t1349)) = some (r1, r2, r3, r4, r5) := H
    have A23 := Aside0.mk A230
    clear A230
    by_cases c24 : t1354 = a1
    ·
     rw [if_pos c24] at H
     have c24b0 : (t1354 == a1) = true := beq_iff_eq.mpr c24
     have c24b1 : (t1354 != a1) = false := bne_eq_false_iff_eq.mpr c24
     clear c24
     by_cases c25 : 0 ≤ a3
     ·
      rw [if_pos c25] at H
      have c25b0 : decide (0 ≤ a3) = true := decide_eq_true c25
      clear c25
      by_cases c26 : a3 < (l0_3.length : Int)
      ·
       rw [if_pos c26] at H
       have c26b0 : decide (a3 < (l0_3.length : Int)) = true := decide_eq_true c26
       clear c26
       have H' := Aside0.mk H
       clear H
       have hnb27 := NB1340_1341.out
       have hnc27 := NB1341_1340.out
       have hnb28 := NB1340_1352.out
       have hnc28 := NB1352_1340.out
       have hcz29_0 : w13.cell? ⟨gb1340, 0, none⟩ = some (.int .i64 a0_0) := (blk_cell BK1340.out 0).trans rfl
       have hcz29_1 : w13.cell? ⟨gb1340, 1, none⟩ = some (.slice A0_1 l0_1.length c0_1) := (blk_cell BK1340.out 1).trans rfl
       have hcz29_2 : w13.cell? ⟨gb1340, 2, none⟩ = some (.slice A0_2 l0_2.length c0_2) := (blk_cell BK1340.out 2).trans rfl
       have hcz29_3 : w13.cell? ⟨gb1340, 3, none⟩ = some (.slice A0_3 l0_3.length c0_3) := (blk_cell BK1340.out 3).trans rfl
       have hfz29_0 := blk_frozen BK1340.out 0
       have hfz29_1 := blk_frozen BK1340.out 1
       have hfz29_2 := blk_frozen BK1340.out 2
       have hfz29_3 := blk_frozen BK1340.out 3
       go_wp2_with (first | (go_at_call 84; (with_reducible refine (spec_l1In.calls a3 0 (wrap64 ((l0_3.length : Int) - 1)) true _ A21.out).mono ?_); rintro e w' ⟨rfl, ⟨nd, rfl⟩⟩) | (go_at_call 79; (with_reducible refine (spec_OwnerOf.calls a0_0 _ _ l0_1 _ _ l0_2 _ _ l0_3 a3 t1354 _ ?side1 ?side2 ?side3 ?side4 ?side5 ?side6 A23.out).mono ?_); (case side1 => exact Kd.C_below HR0_1.out (hb_ HB.out)); (case side2 => exact HC0_1.out); (case side3 => exact Kd.C_below HR0_2.out (hb_ HB.out)); (case side4 => exact HC0_2.out); (case side5 => exact Kd.C_below HR0_3.out (hb_ HB.out)); (case side6 => exact HC0_3.out); rintro e w30 ⟨rfl, hb⟩; have n0_ := Aside0.mk (Kd.R_below (rk_ HO1345.out BK1352.out) hb); have n1_ := Aside0.mk (Kd.R_below (rk_ HO1348.out BK1352.out) hb); have n2_ := Aside0.mk (Kd.R_below (rk_ HO1351.out BK1352.out) hb); have n3_ := Aside0.mk (blk_below (g := gb1340) (o := .cells #[.int .i64 a0_0, .slice A0_1 l0_1.length c0_1, .slice A0_2 l0_2.length c0_2, .slice A0_3 l0_3.length c0_3] 26 (0, 0)) (bf_ NB1340_1352.out BK1340.out) hb); have n4_ := Aside0.mk (blk_below (g := gb1341) (o := .cells #[.int .i64 0, .slice none 0 0, .slice none 0 0, .slice none 0 0] 26 (0, 0)) (bf_ NB1341_1352.out BK1341.out) hb); have n5_ := Aside0.mk (blk_below (g := gb1352) (o := .cells #[.int .i64 t1342, .slice Ao17 t1343.length co17, .slice Ao18 t1346.length co18, .slice Ao19 t1349.length co19] 26 (0, 0)) (bp_ BK1352.out) hb); have n6_ := Aside0.mk (below_step (hb_ HB.out) hb); clear HO1345; clear HO1348; clear HO1351; clear BK1340; clear BK1341; clear BK1352; clear HB; have HO1345 := n0_; have HO1348 := n1_; have HO1351 := n2_; have BK1340 := n3_; have BK1341 := n4_; have BK1352 := n5_; have HB := n6_; clear n0_ n1_ n2_ n3_ n4_ n5_ n6_; (try clear hb); (try clear hb2); (try clear hk); (try clear hi); have hcz31_0 : w30.cell? ⟨gb1340, 0, none⟩ = some (.int .i64 a0_0) := (blk_cell BK1340.out 0).trans rfl; have hcz31_1 : w30.cell? ⟨gb1340, 1, none⟩ = some (.slice A0_1 l0_1.length c0_1) := (blk_cell BK1340.out 1).trans rfl; have hcz31_2 : w30.cell? ⟨gb1340, 2, none⟩ = some (.slice A0_2 l0_2.length c0_2) := (blk_cell BK1340.out 2).trans rfl; have hcz31_3 : w30.cell? ⟨gb1340, 3, none⟩ = some (.slice A0_3 l0_3.length c0_3) := (blk_cell BK1340.out 3).trans rfl; have hfz31_0 := blk_frozen BK1340.out 0; have hfz31_1 := blk_frozen BK1340.out 1; have hfz31_2 := blk_frozen BK1340.out 2; have hfz31_3 := blk_frozen BK1340.out 3; have p1355 : 0 ≤ (a3 : Int) := of_decide_eq_true (by first | (with_reducible assumption) | assumption); have q1355 : a3 < (l0_3.length : Int) := of_decide_eq_true (by first | (with_reducible assumption) | assumption); obtain ⟨ad1355, e1355, hx1355_0⟩ := Kd.at_int HR0_3.out a3 p1355 q1355; cases e1355; replace hx1355_0 := (HB.out.cell (World.block_lt_of_cell? w _ hx1355_0)).trans hx1355_0; replace p1355 := eq_true p1355; replace q1355 := eq_true q1355))
       go_meet
       case rel => exact ⟨_, (decide (a4 < (rd l0_3 a3))), (by first | rfl | (simp; done) | (simp [*]; done)), H', ⟨by first | omega | exact Nat.le_refl _⟩, ⟨rq_ HO1345.out⟩, ⟨rq_ HO1348.out⟩, ⟨rq_ HO1351.out⟩, ⟨bq_ BK1340.out⟩, ⟨bq_ BK1341.out⟩, ⟨bq_ BK1352.out⟩, ⟨hb_ HB.out⟩⟩
      ·
       rw [if_neg c26] at H
       exact absurd H (by simp)
     ·
      rw [if_neg c25] at H
      exact absurd H (by simp)
    ·
     rw [if_neg c24] at H
     have c24b0 : (t1354 == a1) = false := beq_eq_false_iff_ne.mpr c24
     have c24b1 : (t1354 != a1) = true := bne_iff_ne.mpr c24
     have H' := Aside0.mk H
     clear H
     have hnb32 := NB1340_1341.out
     have hnc32 := NB1341_1340.out
     have hnb33 := NB1340_1352.out
     have hnc33 := NB1352_1340.out
     have hcz34_0 : w13.cell? ⟨gb1340, 0, none⟩ = some (.int .i64 a0_0) := (blk_cell BK1340.out 0).trans rfl
     have hcz34_1 : w13.cell? ⟨gb1340, 1, none⟩ = some (.slice A0_1 l0_1.length c0_1) := (blk_cell BK1340.out 1).trans rfl
     have hcz34_2 : w13.cell? ⟨gb1340, 2, none⟩ = some (.slice A0_2 l0_2.length c0_2) := (blk_cell BK1340.out 2).trans rfl
     have hcz34_3 : w13.cell? ⟨gb1340, 3, none⟩ = some (.slice A0_3 l0_3.length c0_3) := (blk_cell BK1340.out 3).trans rfl
     have hfz34_0 := blk_frozen BK1340.out 0
     have hfz34_1 := blk_frozen BK1340.out 1
     have hfz34_2 := blk_frozen BK1340.out 2
     have hfz34_3 := blk_frozen BK1340.out 3
     go_wp2_with (first | (go_at_call 84; (with_reducible refine (spec_l1In.calls a3 0 (wrap64 ((l0_3.length : Int) - 1)) true _ A21.out).mono ?_); rintro e w' ⟨rfl, ⟨nd, rfl⟩⟩) | (go_at_call 79; (with_reducible refine (spec_OwnerOf.calls a0_0 _ _ l0_1 _ _ l0_2 _ _ l0_3 a3 t1354 _ ?side1 ?side2 ?side3 ?side4 ?side5 ?side6 A23.out).mono ?_); (case side1 => exact Kd.C_below HR0_1.out (hb_ HB.out)); (case side2 => exact HC0_1.out); (case side3 => exact Kd.C_below HR0_2.out (hb_ HB.out)); (case side4 => exact HC0_2.out); (case side5 => exact Kd.C_below HR0_3.out (hb_ HB.out)); (case side6 => exact HC0_3.out); rintro e w35 ⟨rfl, hb⟩; have n0_ := Aside0.mk (Kd.R_below (rk_ HO1345.out BK1352.out) hb); have n1_ := Aside0.mk (Kd.R_below (rk_ HO1348.out BK1352.out) hb); have n2_ := Aside0.mk (Kd.R_below (rk_ HO1351.out BK1352.out) hb); have n3_ := Aside0.mk (blk_below (g := gb1340) (o := .cells #[.int .i64 a0_0, .slice A0_1 l0_1.length c0_1, .slice A0_2 l0_2.length c0_2, .slice A0_3 l0_3.length c0_3] 26 (0, 0)) (bf_ NB1340_1352.out BK1340.out) hb); have n4_ := Aside0.mk (blk_below (g := gb1341) (o := .cells #[.int .i64 0, .slice none 0 0, .slice none 0 0, .slice none 0 0] 26 (0, 0)) (bf_ NB1341_1352.out BK1341.out) hb); have n5_ := Aside0.mk (blk_below (g := gb1352) (o := .cells #[.int .i64 t1342, .slice Ao17 t1343.length co17, .slice Ao18 t1346.length co18, .slice Ao19 t1349.length co19] 26 (0, 0)) (bp_ BK1352.out) hb); have n6_ := Aside0.mk (below_step (hb_ HB.out) hb); clear HO1345; clear HO1348; clear HO1351; clear BK1340; clear BK1341; clear BK1352; clear HB; have HO1345 := n0_; have HO1348 := n1_; have HO1351 := n2_; have BK1340 := n3_; have BK1341 := n4_; have BK1352 := n5_; have HB := n6_; clear n0_ n1_ n2_ n3_ n4_ n5_ n6_; (try clear hb); (try clear hb2); (try clear hk); (try clear hi)))
     go_meet
     case rel => exact ⟨_, (true), (by first | rfl | (simp; done) | (simp [*]; done)), H', ⟨by first | omega | exact Nat.le_refl _⟩, ⟨rq_ HO1345.out⟩, ⟨rq_ HO1348.out⟩, ⟨rq_ HO1351.out⟩, ⟨bq_ BK1340.out⟩, ⟨bq_ BK1341.out⟩, ⟨bq_ BK1352.out⟩, ⟨hb_ HB.out⟩⟩
   ·
    replace c22 := Bool.eq_false_iff.mpr c22
    subst c22
    have H1 : (spec_GroupMark.j0 k a3 a4 true t1342 t1343 t1346 t1349) = some (r1, r2, r3, r4, r5) := by rw [if_neg (show ¬ (false = true) by decide)] at H; exact H
    clear H
    have H := H1
    clear H1
    have H' := Aside0.mk H
    clear H
    have hnb36 := NB1340_1341.out
    have hnc36 := NB1341_1340.out
    have hnb37 := NB1340_1352.out
    have hnc37 := NB1352_1340.out
    have hcz38_0 : w13.cell? ⟨gb1340, 0, none⟩ = some (.int .i64 a0_0) := (blk_cell BK1340.out 0).trans rfl
    have hcz38_1 : w13.cell? ⟨gb1340, 1, none⟩ = some (.slice A0_1 l0_1.length c0_1) := (blk_cell BK1340.out 1).trans rfl
    have hcz38_2 : w13.cell? ⟨gb1340, 2, none⟩ = some (.slice A0_2 l0_2.length c0_2) := (blk_cell BK1340.out 2).trans rfl
    have hcz38_3 : w13.cell? ⟨gb1340, 3, none⟩ = some (.slice A0_3 l0_3.length c0_3) := (blk_cell BK1340.out 3).trans rfl
    have hfz38_0 := blk_frozen BK1340.out 0
    have hfz38_1 := blk_frozen BK1340.out 1
    have hfz38_2 := blk_frozen BK1340.out 2
    have hfz38_3 := blk_frozen BK1340.out 3
    go_wp2_with (first | (go_at_call 84; (with_reducible refine (spec_l1In.calls a3 0 (wrap64 ((l0_3.length : Int) - 1)) false _ A21.out).mono ?_); rintro e w' ⟨rfl, ⟨nd, rfl⟩⟩))
    go_meet
    case rel => exact ⟨_, (true), (by first | rfl | (simp; done) | (simp [*]; done)), H', ⟨by first | omega | exact Nat.le_refl _⟩, ⟨by (with_reducible repeat (first | apply Kd.R_alloc | apply Kd.R_drewN | apply Kd.R_drew)); exact Kd.R_mono (Kd.R_far (p := ⟨gb1352, 3, none⟩) (Kd.R_far (p := ⟨gb1352, 2, none⟩) (Kd.R_far (p := ⟨gb1352, 1, none⟩) (Kd.R_far (p := ⟨gb1352, 0, none⟩) (Kd.R_types HO1345.out BK1352.out (by decide)) (fun _ hk => hk.2) (.int .i64 t1342)) (fun _ hk => hk.2) (.slice Ao17 t1343.length co17)) (fun _ hk => hk.2) (.slice Ao18 t1346.length co18)) (fun _ hk => hk.2) (.slice Ao19 t1349.length co19)) (fun _ hk => ⟨hk.1.1, hk.1.2⟩)⟩, ⟨by (with_reducible repeat (first | apply Kd.R_alloc | apply Kd.R_drewN | apply Kd.R_drew)); exact Kd.R_mono (Kd.R_far (p := ⟨gb1352, 3, none⟩) (Kd.R_far (p := ⟨gb1352, 2, none⟩) (Kd.R_far (p := ⟨gb1352, 1, none⟩) (Kd.R_far (p := ⟨gb1352, 0, none⟩) (Kd.R_types HO1348.out BK1352.out (by decide)) (fun _ hk => hk.2) (.int .i64 t1342)) (fun _ hk => hk.2) (.slice Ao17 t1343.length co17)) (fun _ hk => hk.2) (.slice Ao18 t1346.length co18)) (fun _ hk => hk.2) (.slice Ao19 t1349.length co19)) (fun _ hk => ⟨hk.1.1, hk.1.2⟩)⟩, ⟨by (with_reducible repeat (first | apply Kd.R_alloc | apply Kd.R_drewN | apply Kd.R_drew)); exact Kd.R_mono (Kd.R_far (p := ⟨gb1352, 3, none⟩) (Kd.R_far (p := ⟨gb1352, 2, none⟩) (Kd.R_far (p := ⟨gb1352, 1, none⟩) (Kd.R_far (p := ⟨gb1352, 0, none⟩) (Kd.R_types HO1351.out BK1352.out (by decide)) (fun _ hk => hk.2) (.int .i64 t1342)) (fun _ hk => hk.2) (.slice Ao17 t1343.length co17)) (fun _ hk => hk.2) (.slice Ao18 t1346.length co18)) (fun _ hk => hk.2) (.slice Ao19 t1349.length co19)) (fun _ hk => ⟨hk.1.1, hk.1.2⟩)⟩, ⟨by (with_reducible repeat (first | refine blk_drewN ?_ _ | refine blk_drew ?_ | refine blk_alloc ?_ _)); refine blk_far ?_ NB1340_1352.out _; (with_reducible repeat (first | refine blk_drewN ?_ _ | refine blk_drew ?_ | refine blk_alloc ?_ _)); refine blk_far ?_ NB1340_1352.out _; (with_reducible repeat (first | refine blk_drewN ?_ _ | refine blk_drew ?_ | refine blk_alloc ?_ _)); refine blk_far ?_ NB1340_1352.out _; (with_reducible repeat (first | refine blk_drewN ?_ _ | refine blk_drew ?_ | refine blk_alloc ?_ _)); refine blk_far ?_ NB1340_1352.out _; (with_reducible repeat (first | refine blk_drewN ?_ _ | refine blk_drew ?_ | refine blk_alloc ?_ _)); exact BK1340.out⟩, ⟨by (with_reducible repeat (first | refine blk_drewN ?_ _ | refine blk_drew ?_ | refine blk_alloc ?_ _)); refine blk_far ?_ NB1341_1352.out _; (with_reducible repeat (first | refine blk_drewN ?_ _ | refine blk_drew ?_ | refine blk_alloc ?_ _)); refine blk_far ?_ NB1341_1352.out _; (with_reducible repeat (first | refine blk_drewN ?_ _ | refine blk_drew ?_ | refine blk_alloc ?_ _)); refine blk_far ?_ NB1341_1352.out _; (with_reducible repeat (first | refine blk_drewN ?_ _ | refine blk_drew ?_ | refine blk_alloc ?_ _)); refine blk_far ?_ NB1341_1352.out _; (with_reducible repeat (first | refine blk_drewN ?_ _ | refine blk_drew ?_ | refine blk_alloc ?_ _)); exact BK1341.out⟩, ⟨by (with_reducible repeat (first | refine blk_drewN ?_ _ | refine blk_drew ?_ | refine blk_alloc ?_ _)); refine blk_put (cs := #[.int .i64 t1342, .slice Ao17 t1343.length co17, .slice Ao18 t1346.length co18, .slice none 0 0]) ?_ 3 _ rfl; (with_reducible repeat (first | refine blk_drewN ?_ _ | refine blk_drew ?_ | refine blk_alloc ?_ _)); refine blk_put (cs := #[.int .i64 t1342, .slice Ao17 t1343.length co17, .slice none 0 0, .slice none 0 0]) ?_ 2 _ rfl; (with_reducible repeat (first | refine blk_drewN ?_ _ | refine blk_drew ?_ | refine blk_alloc ?_ _)); refine blk_put (cs := #[.int .i64 t1342, .slice none 0 0, .slice none 0 0, .slice none 0 0]) ?_ 1 _ rfl; (with_reducible repeat (first | refine blk_drewN ?_ _ | refine blk_drew ?_ | refine blk_alloc ?_ _)); refine blk_put (cs := #[.int .i64 0, .slice none 0 0, .slice none 0 0, .slice none 0 0]) ?_ 0 _ rfl; (with_reducible repeat (first | refine blk_drewN ?_ _ | refine blk_drew ?_ | refine blk_alloc ?_ _)); exact BK1352.out⟩, ⟨hb_ HB.out⟩⟩
  ·
   rw [if_neg c20] at H
   have c20b0 : (a2 == a0_0) = false := beq_eq_false_iff_ne.mpr c20
   have c20b1 : (a2 != a0_0) = true := bne_iff_ne.mpr c20
   (first | rw [c20b0] | (simp only [i64_w, i32_w]; rw [c20b0]) | rw [c20b4] | rw [c20b3] | skip)
   have H' := Aside0.mk H
   clear H
   have hnb39 := NB1340_1341.out
   have hnc39 := NB1341_1340.out
   have hnb40 := NB1340_1352.out
   have hnc40 := NB1352_1340.out
   have hcz41_0 : w13.cell? ⟨gb1340, 0, none⟩ = some (.int .i64 a0_0) := (blk_cell BK1340.out 0).trans rfl
   have hcz41_1 : w13.cell? ⟨gb1340, 1, none⟩ = some (.slice A0_1 l0_1.length c0_1) := (blk_cell BK1340.out 1).trans rfl
   have hcz41_2 : w13.cell? ⟨gb1340, 2, none⟩ = some (.slice A0_2 l0_2.length c0_2) := (blk_cell BK1340.out 2).trans rfl
   have hcz41_3 : w13.cell? ⟨gb1340, 3, none⟩ = some (.slice A0_3 l0_3.length c0_3) := (blk_cell BK1340.out 3).trans rfl
   have hfz41_0 := blk_frozen BK1340.out 0
   have hfz41_1 := blk_frozen BK1340.out 1
   have hfz41_2 := blk_frozen BK1340.out 2
   have hfz41_3 := blk_frozen BK1340.out 3
   go_wp2
   go_meet
   case rel => exact ⟨_, (true), (by first | rfl | (simp; done) | (simp [*]; done)), H', ⟨by first | omega | exact Nat.le_refl _⟩, ⟨by (with_reducible repeat (first | apply Kd.R_alloc | apply Kd.R_drewN | apply Kd.R_drew)); exact Kd.R_mono (Kd.R_far (p := ⟨gb1352, 3, none⟩) (Kd.R_far (p := ⟨gb1352, 2, none⟩) (Kd.R_far (p := ⟨gb1352, 1, none⟩) (Kd.R_far (p := ⟨gb1352, 0, none⟩) (Kd.R_types HO1345.out BK1352.out (by decide)) (fun _ hk => hk.2) (.int .i64 t1342)) (fun _ hk => hk.2) (.slice Ao17 t1343.length co17)) (fun _ hk => hk.2) (.slice Ao18 t1346.length co18)) (fun _ hk => hk.2) (.slice Ao19 t1349.length co19)) (fun _ hk => ⟨hk.1.1, hk.1.2⟩)⟩, ⟨by (with_reducible repeat (first | apply Kd.R_alloc | apply Kd.R_drewN | apply Kd.R_drew)); exact Kd.R_mono (Kd.R_far (p := ⟨gb1352, 3, none⟩) (Kd.R_far (p := ⟨gb1352, 2, none⟩) (Kd.R_far (p := ⟨gb1352, 1, none⟩) (Kd.R_far (p := ⟨gb1352, 0, none⟩) (Kd.R_types HO1348.out BK1352.out (by decide)) (fun _ hk => hk.2) (.int .i64 t1342)) (fun _ hk => hk.2) (.slice Ao17 t1343.length co17)) (fun _ hk => hk.2) (.slice Ao18 t1346.length co18)) (fun _ hk => hk.2) (.slice Ao19 t1349.length co19)) (fun _ hk => ⟨hk.1.1, hk.1.2⟩)⟩, ⟨by (with_reducible repeat (first | apply Kd.R_alloc | apply Kd.R_drewN | apply Kd.R_drew)); exact Kd.R_mono (Kd.R_far (p := ⟨gb1352, 3, none⟩) (Kd.R_far (p := ⟨gb1352, 2, none⟩) (Kd.R_far (p := ⟨gb1352, 1, none⟩) (Kd.R_far (p := ⟨gb1352, 0, none⟩) (Kd.R_types HO1351.out BK1352.out (by decide)) (fun _ hk => hk.2) (.int .i64 t1342)) (fun _ hk => hk.2) (.slice Ao17 t1343.length co17)) (fun _ hk => hk.2) (.slice Ao18 t1346.length co18)) (fun _ hk => hk.2) (.slice Ao19 t1349.length co19)) (fun _ hk => ⟨hk.1.1, hk.1.2⟩)⟩, ⟨by (with_reducible repeat (first | refine blk_drewN ?_ _ | refine blk_drew ?_ | refine blk_alloc ?_ _)); refine blk_far ?_ NB1340_1352.out _; (with_reducible repeat (first | refine blk_drewN ?_ _ | refine blk_drew ?_ | refine blk_alloc ?_ _)); refine blk_far ?_ NB1340_1352.out _; (with_reducible repeat (first | refine blk_drewN ?_ _ | refine blk_drew ?_ | refine blk_alloc ?_ _)); refine blk_far ?_ NB1340_1352.out _; (with_reducible repeat (first | refine blk_drewN ?_ _ | refine blk_drew ?_ | refine blk_alloc ?_ _)); refine blk_far ?_ NB1340_1352.out _; (with_reducible repeat (first | refine blk_drewN ?_ _ | refine blk_drew ?_ | refine blk_alloc ?_ _)); exact BK1340.out⟩, ⟨by (with_reducible repeat (first | refine blk_drewN ?_ _ | refine blk_drew ?_ | refine blk_alloc ?_ _)); refine blk_far ?_ NB1341_1352.out _; (with_reducible repeat (first | refine blk_drewN ?_ _ | refine blk_drew ?_ | refine blk_alloc ?_ _)); refine blk_far ?_ NB1341_1352.out _; (with_reducible repeat (first | refine blk_drewN ?_ _ | refine blk_drew ?_ | refine blk_alloc ?_ _)); refine blk_far ?_ NB1341_1352.out _; (with_reducible repeat (first | refine blk_drewN ?_ _ | refine blk_drew ?_ | refine blk_alloc ?_ _)); refine blk_far ?_ NB1341_1352.out _; (with_reducible repeat (first | refine blk_drewN ?_ _ | refine blk_drew ?_ | refine blk_alloc ?_ _)); exact BK1341.out⟩, ⟨by (with_reducible repeat (first | refine blk_drewN ?_ _ | refine blk_drew ?_ | refine blk_alloc ?_ _)); refine blk_put (cs := #[.int .i64 t1342, .slice Ao17 t1343.length co17, .slice Ao18 t1346.length co18, .slice none 0 0]) ?_ 3 _ rfl; (with_reducible repeat (first | refine blk_drewN ?_ _ | refine blk_drew ?_ | refine blk_alloc ?_ _)); refine blk_put (cs := #[.int .i64 t1342, .slice Ao17 t1343.length co17, .slice none 0 0, .slice none 0 0]) ?_ 2 _ rfl; (with_reducible repeat (first | refine blk_drewN ?_ _ | refine blk_drew ?_ | refine blk_alloc ?_ _)); refine blk_put (cs := #[.int .i64 t1342, .slice none 0 0, .slice none 0 0, .slice none 0 0]) ?_ 1 _ rfl; (with_reducible repeat (first | refine blk_drewN ?_ _ | refine blk_drew ?_ | refine blk_alloc ?_ _)); refine blk_put (cs := #[.int .i64 0, .slice none 0 0, .slice none 0 0, .slice none 0 0]) ?_ 0 _ rfl; (with_reducible repeat (first | refine blk_drewN ?_ _ | refine blk_drew ?_ | refine blk_alloc ?_ _)); exact BK1352.out⟩, ⟨hb_ HB.out⟩⟩
 case rest =>
  clear HC7
  (try clear c1); (try clear p1); (try clear q1); (try clear hx1); (try clear c2); (try clear p2); (try clear c3); (try clear c4); (try clear p6); (try clear c8); (try clear c10); (try clear p13); (try clear q13); (try clear hx13); (try clear c14); (try clear c15); (try clear c20); (try clear c20b0); (try clear c20b1); (try clear c22); (try clear c24); (try clear c24b0); (try clear c24b1); (try clear c25); (try clear c25b0); (try clear c26); (try clear c26b0); (try clear c27); (try clear c28); (try clear c32); (try clear c33); (try clear c36); (try clear c37); (try clear c39); (try clear c40); (try clear hcz11_0); (try clear hcz11_1); (try clear hcz11_2); (try clear hcz11_3); (try clear hcz16_0); (try clear hcz16_1); (try clear hcz16_2); (try clear hcz16_3); (try clear hcz29_0); (try clear hcz29_1); (try clear hcz29_2); (try clear hcz29_3); (try clear hcz31_0); (try clear hcz31_1); (try clear hcz31_2); (try clear hcz31_3); (try clear hcz34_0); (try clear hcz34_1); (try clear hcz34_2); (try clear hcz34_3); (try clear hcz38_0); (try clear hcz38_1); (try clear hcz38_2); (try clear hcz38_3); (try clear hcz41_0); (try clear hcz41_1); (try clear hcz41_2); (try clear hcz41_3); (try clear hfz11_0); (try clear hfz11_1); (try clear hfz11_2); (try clear hfz11_3); (try clear hfz16_0); (try clear hfz16_1); (try clear hfz16_2); (try clear hfz16_3); (try clear hfz29_0); (try clear hfz29_1); (try clear hfz29_2); (try clear hfz29_3); (try clear hfz31_0); (try clear hfz31_1); (try clear hfz31_2); (try clear hfz31_3); (try clear hfz34_0); (try clear hfz34_1); (try clear hfz34_2); (try clear hfz34_3); (try clear hfz38_0); (try clear hfz38_1); (try clear hfz38_2); (try clear hfz38_3); (try clear hfz41_0); (try clear hfz41_1); (try clear hfz41_2); (try clear hfz41_3); (try clear hx1355_0); (try clear p1355); (try clear q1355)
  obtain ⟨kq, x43_6, rfl, HA, HJ6, HO_1353001, HO_1353002, HO_1353003, BK1340, BK1341, BK1352, HB⟩ := hcut
  cases kq with
  | zero => exact absurd HA.out (by simp [spec_GroupMark.j0])
  | succ kj6 =>
   have H := HA.out
   clear HA
   simp only [spec_GroupMark.j0] at H
   by_cases c42 : x43_6 = true
   ·
    subst c42
    have H1 : (some (t1342, t1343, t1346, t1349, false)) = some (r1, r2, r3, r4, r5) := by rw [if_pos rfl] at H; exact H
    clear H
    have H := H1
    clear H1
    simp only [Option.some.injEq, Prod.mk.injEq] at H
    obtain ⟨rfl, rfl, rfl, rfl, rfl⟩ := H
    have hnb43 := NB1352_1340.out
    have hnc43 := NB1340_1352.out
    have hnb44 := NB1352_1341.out
    have hnc44 := NB1341_1352.out
    have hcz45_0 : wc.cell? ⟨gb1352, 0, none⟩ = some (.int .i64 t1342) := (blk_cell BK1352.out 0).trans rfl
    have hcz45_1 : wc.cell? ⟨gb1352, 1, none⟩ = some (.slice Ao17 t1343.length co17) := (blk_cell BK1352.out 1).trans rfl
    have hcz45_2 : wc.cell? ⟨gb1352, 2, none⟩ = some (.slice Ao18 t1346.length co18) := (blk_cell BK1352.out 2).trans rfl
    have hcz45_3 : wc.cell? ⟨gb1352, 3, none⟩ = some (.slice Ao19 t1349.length co19) := (blk_cell BK1352.out 3).trans rfl
    have hfz45_0 := blk_frozen BK1352.out 0
    have hfz45_1 := blk_frozen BK1352.out 1
    have hfz45_2 := blk_frozen BK1352.out 2
    have hfz45_3 := blk_frozen BK1352.out 3
    have hnb46 := NB1341_1340.out
    have hnc46 := NB1340_1341.out
    have hcz47_0 : wc.cell? ⟨gb1341, 0, none⟩ = some (.int .i64 0) := (blk_cell BK1341.out 0).trans rfl
    have hcz47_1 : wc.cell? ⟨gb1341, 1, none⟩ = some (.slice none 0 0) := (blk_cell BK1341.out 1).trans rfl
    have hcz47_2 : wc.cell? ⟨gb1341, 2, none⟩ = some (.slice none 0 0) := (blk_cell BK1341.out 2).trans rfl
    have hcz47_3 : wc.cell? ⟨gb1341, 3, none⟩ = some (.slice none 0 0) := (blk_cell BK1341.out 3).trans rfl
    have hfz47_0 := blk_frozen BK1341.out 0
    have hfz47_1 := blk_frozen BK1341.out 1
    have hfz47_2 := blk_frozen BK1341.out 2
    have hfz47_3 := blk_frozen BK1341.out 3
    go_wp2
    refine bodyPost_ret (results_ct rfl _ _ gb1341 26 #[.int .i64 t1342, .slice Ao17 t1343.length co17, .slice Ao18 t1346.length co18, .slice Ao19 t1349.length co19] (0, 0) _ rfl (bp_ BK1341.out) Try.underlying26 rfl (by kernel_rfl)) rfl ?_
    exact ⟨_, _, _, er_, by (with_reducible repeat (first | apply Kd.R_alloc | apply Kd.R_drewN | apply Kd.R_drew)); exact Kd.R_mono (Kd.R_far (p := ⟨gb1341, 3, none⟩) (Kd.R_far (p := ⟨gb1341, 2, none⟩) (Kd.R_far (p := ⟨gb1341, 1, none⟩) (Kd.R_far (p := ⟨gb1341, 0, none⟩) (Kd.R_types HO_1353001.out BK1341.out (by decide)) (fun _ hk => hk.2) (.int .i64 t1342)) (fun _ hk => hk.2) (.slice Ao17 t1343.length co17)) (fun _ hk => hk.2) (.slice Ao18 t1346.length co18)) (fun _ hk => hk.2) (.slice Ao19 t1349.length co19)) (fun _ hk => ⟨hk.1.1, hk.1.2⟩), by (with_reducible repeat (first | apply Kd.R_alloc | apply Kd.R_drewN | apply Kd.R_drew)); exact Kd.R_mono (Kd.R_far (p := ⟨gb1341, 3, none⟩) (Kd.R_far (p := ⟨gb1341, 2, none⟩) (Kd.R_far (p := ⟨gb1341, 1, none⟩) (Kd.R_far (p := ⟨gb1341, 0, none⟩) (Kd.R_types HO_1353002.out BK1341.out (by decide)) (fun _ hk => hk.2) (.int .i64 t1342)) (fun _ hk => hk.2) (.slice Ao17 t1343.length co17)) (fun _ hk => hk.2) (.slice Ao18 t1346.length co18)) (fun _ hk => hk.2) (.slice Ao19 t1349.length co19)) (fun _ hk => ⟨hk.1.1, hk.1.2⟩), by (with_reducible repeat (first | apply Kd.R_alloc | apply Kd.R_drewN | apply Kd.R_drew)); exact Kd.R_mono (Kd.R_far (p := ⟨gb1341, 3, none⟩) (Kd.R_far (p := ⟨gb1341, 2, none⟩) (Kd.R_far (p := ⟨gb1341, 1, none⟩) (Kd.R_far (p := ⟨gb1341, 0, none⟩) (Kd.R_types HO_1353003.out BK1341.out (by decide)) (fun _ hk => hk.2) (.int .i64 t1342)) (fun _ hk => hk.2) (.slice Ao17 t1343.length co17)) (fun _ hk => hk.2) (.slice Ao18 t1346.length co18)) (fun _ hk => hk.2) (.slice Ao19 t1349.length co19)) (fun _ hk => ⟨hk.1.1, hk.1.2⟩), hb_ HB.out⟩
   ·
    replace c42 := Bool.eq_false_iff.mpr c42
    subst c42
    have H1 : (if 0 ≤ a3 then (if a3 < (t1349.length : Int) then (some (t1342, t1343, t1346, (t1349.set (a3 : Int).toNat a4), true)) else (none)) else (none)) = some (r1, r2, r3, r4, r5) := by rw [if_neg (show ¬ (false = true) by decide)] at H; exact H
    clear H
    have H := H1
    clear H1
    by_cases c48 : 0 ≤ a3
    ·
     rw [if_pos c48] at H
     have c48b0 : decide (0 ≤ a3) = true := decide_eq_true c48
     clear c48
     by_cases c49 : a3 < (t1349.length : Int)
     ·
      rw [if_pos c49] at H
      have c49b0 : decide (a3 < (t1349.length : Int)) = true := decide_eq_true c49
      clear c49
      obtain ⟨y1356, hy1356⟩ : ∃ y_ : List Int, y_ = (t1349.set (a3 : Int).toNat a4) := ⟨_, rfl⟩
      replace H : (some (t1342, t1343, t1346, y1356, true)) = some (r1, r2, r3, r4, r5) := by first | (rw [hy1356]; with_reducible exact H) | (have H2_ := (Option.bind_some _ _).symm.trans H; rw [hy1356]; with_reducible exact H2_) | (have H2_ := (Option.bind_some _ _).symm.trans H; with_reducible exact H2_) | with_reducible exact H | (rw [hy1356]; exact H) | exact H
      have Ny1356 := Aside0.mk hy1356
      clear hy1356
      simp only [Option.some.injEq, Prod.mk.injEq] at H
      obtain ⟨rfl, rfl, rfl, rfl, rfl⟩ := H
      have hnb51 := NB1352_1340.out
      have hnc51 := NB1340_1352.out
      have hnb52 := NB1352_1341.out
      have hnc52 := NB1341_1352.out
      have hcz53_0 : wc.cell? ⟨gb1352, 0, none⟩ = some (.int .i64 t1342) := (blk_cell BK1352.out 0).trans rfl
      have hcz53_1 : wc.cell? ⟨gb1352, 1, none⟩ = some (.slice Ao17 t1343.length co17) := (blk_cell BK1352.out 1).trans rfl
      have hcz53_2 : wc.cell? ⟨gb1352, 2, none⟩ = some (.slice Ao18 t1346.length co18) := (blk_cell BK1352.out 2).trans rfl
      have hcz53_3 : wc.cell? ⟨gb1352, 3, none⟩ = some (.slice Ao19 t1349.length co19) := (blk_cell BK1352.out 3).trans rfl
      have hfz53_0 := blk_frozen BK1352.out 0
      have hfz53_1 := blk_frozen BK1352.out 1
      have hfz53_2 := blk_frozen BK1352.out 2
      have hfz53_3 := blk_frozen BK1352.out 3
      have p50 : 0 ≤ (a3 : Int) := of_decide_eq_true (by first | (with_reducible assumption) | assumption)
      have q50 : (a3 : Int) < ((t1349.length : Int) : Int) := of_decide_eq_true (by first | (with_reducible assumption) | assumption)
      obtain ⟨go50, co50, eo50, gb50, gl50, cl50, HG50⟩ := Kd.R_form HO_1353003.out (by omega)
      (first | cases eo50 | (injection eo50 with ea_ en_ ec_; (first | subst ea_ | (injection ea_ with ea_; subst ea_)); subst ec_; clear en_))
      have GB50 := Aside0.mk gb50
      have GG50 := Aside0.mk HG50
      clear gb50 gl50 HG50
      obtain ⟨hx50_0, hf50_0⟩ := Kd.R_celln 0 HO_1353003.out (a3 : Int) p50 q50
      replace p50 := eq_true p50
      replace q50 := eq_true q50
      have HP54 := Kd.R_putg HO_1353003.out (a3 : Int) a4
      go_wp2_with (first | ((with_reducible refine gate_store (t := 3) (p := 49) rfl ?_); refine store_event (t := 3) (p := 49) (v := ?vo_w55) (w1 := (wc.setCell ⟨go50, (a3 : Int).toNat, none⟩ (.int .i64 a4))) ?hg ?ho ?hn ?hr ?_; (case ho => rfl); (case hg => rfl); (case hn => rfl); (case hr => first | (go_simp; done) | (go_simp; rfl)); intro w55 hw; have hg : wc.grownBy w55 (some go50) := (by rw [hw]; exact HP54.2); have hp_ : Kd.R (Kd.int .i64) 3 w55 w.heap.size (fun k_ => some k_ ≠ (.slice Ao17 t1343.length co17 : Value).ownBlock ∧ some k_ ≠ (.slice Ao18 t1346.length co18 : Value).ownBlock) (.slice (some ⟨go50, 0, none⟩) t1349.length co19) y1356 := (by rw [hw, Ny1356.out]; exact HP54.1); clear HP54; have n0_ := Aside0.mk (Kd.R_after (v := (.slice (some ⟨go50, 0, none⟩) t1349.length co19)) (v1 := (.slice (some ⟨go50, 0, none⟩) t1349.length co19)) (ok := (fun k_ => some k_ ≠ (.slice Ao18 t1346.length co18 : Value).ownBlock)) (rq_ HO_1353001.out) hg (.inl rfl)); have n1_ := Aside0.mk (Kd.R_after (v := (.slice (some ⟨go50, 0, none⟩) t1349.length co19)) (v1 := (.slice (some ⟨go50, 0, none⟩) t1349.length co19)) (ok := (fun k_ => some k_ ≠ (.slice Ao17 t1343.length co17 : Value).ownBlock)) (rq_ HO_1353002.out) hg (.inl rfl)); have n2_ := Aside0.mk (hp_); have n3_ := Aside0.mk (blk_grown (g := gb1340) (o := .cells #[.int .i64 a0_0, .slice A0_1 l0_1.length c0_1, .slice A0_2 l0_2.length c0_2, .slice A0_3 l0_3.length c0_3] 26 (0, 0)) (bq_ BK1340.out) hg (Kd.R_ne HO_1353003.out BK1340.out (by decide))); have n4_ := Aside0.mk (blk_grown (g := gb1341) (o := .cells #[.int .i64 0, .slice none 0 0, .slice none 0 0, .slice none 0 0] 26 (0, 0)) (bq_ BK1341.out) hg (Kd.R_ne HO_1353003.out BK1341.out (by decide))); have n5_ := Aside0.mk (blk_grown (g := gb1352) (o := .cells #[.int .i64 t1342, .slice Ao17 t1343.length co17, .slice Ao18 t1346.length co18, .slice (some ⟨go50, 0, none⟩) t1349.length co19] 26 (0, 0)) (bq_ BK1352.out) hg (Kd.R_ne HO_1353003.out BK1352.out (by decide))); have n6_ := Aside0.mk ((by rw [hw]; exact below_set (HB.out) GB50.out : Below w.heap.size w w55)); clear HO_1353001; clear HO_1353002; clear HO_1353003; clear BK1340; clear BK1341; clear BK1352; clear HB; have HO_1353001 := n0_; have HO_1353002 := n1_; have HO_1353003 := n2_; have BK1340 := n3_; have BK1341 := n4_; have BK1352 := n5_; have HB := n6_; clear n0_ n1_ n2_ n3_ n4_ n5_ n6_; clear hg hw hp_; have hcz56_0 : w55.cell? ⟨gb1352, 0, none⟩ = some (.int .i64 t1342) := (blk_cell BK1352.out 0).trans rfl; have hcz56_1 : w55.cell? ⟨gb1352, 1, none⟩ = some (.slice Ao17 t1343.length co17) := (blk_cell BK1352.out 1).trans rfl; have hcz56_2 : w55.cell? ⟨gb1352, 2, none⟩ = some (.slice Ao18 t1346.length co18) := (blk_cell BK1352.out 2).trans rfl; have hcz56_3 : w55.cell? ⟨gb1352, 3, none⟩ = some (.slice (some ⟨go50, 0, none⟩) t1349.length co19) := (blk_cell BK1352.out 3).trans rfl; have hfz56_0 := blk_frozen BK1352.out 0; have hfz56_1 := blk_frozen BK1352.out 1; have hfz56_2 := blk_frozen BK1352.out 2; have hfz56_3 := blk_frozen BK1352.out 3; have hnb57 := NB1341_1340.out; have hnc57 := NB1340_1341.out; have hcz58_0 : w55.cell? ⟨gb1341, 0, none⟩ = some (.int .i64 0) := (blk_cell BK1341.out 0).trans rfl; have hcz58_1 : w55.cell? ⟨gb1341, 1, none⟩ = some (.slice none 0 0) := (blk_cell BK1341.out 1).trans rfl; have hcz58_2 : w55.cell? ⟨gb1341, 2, none⟩ = some (.slice none 0 0) := (blk_cell BK1341.out 2).trans rfl; have hcz58_3 : w55.cell? ⟨gb1341, 3, none⟩ = some (.slice none 0 0) := (blk_cell BK1341.out 3).trans rfl; have hfz58_0 := blk_frozen BK1341.out 0; have hfz58_1 := blk_frozen BK1341.out 1; have hfz58_2 := blk_frozen BK1341.out 2; have hfz58_3 := blk_frozen BK1341.out 3))
      refine bodyPost_ret (results_ct rfl _ _ gb1341 26 #[.int .i64 t1342, .slice Ao17 t1343.length co17, .slice Ao18 t1346.length co18, .slice (some ⟨go50, 0, none⟩) t1349.length co19] (0, 0) _ rfl (bp_ BK1341.out) Try.underlying26 rfl (by kernel_rfl)) rfl ?_
      exact ⟨_, _, _, er_, by (with_reducible repeat (first | apply Kd.R_alloc | apply Kd.R_drewN | apply Kd.R_drew)); exact Kd.R_mono (Kd.R_far (p := ⟨gb1341, 3, none⟩) (Kd.R_far (p := ⟨gb1341, 2, none⟩) (Kd.R_far (p := ⟨gb1341, 1, none⟩) (Kd.R_far (p := ⟨gb1341, 0, none⟩) (Kd.R_types HO_1353001.out BK1341.out (by decide)) (fun _ hk => hk.2) (.int .i64 t1342)) (fun _ hk => hk.2) (.slice Ao17 t1343.length co17)) (fun _ hk => hk.2) (.slice Ao18 t1346.length co18)) (fun _ hk => hk.2) (.slice (some ⟨go50, 0, none⟩) t1349.length co19)) (fun _ hk => ⟨hk.1.1, hk.1.2⟩), by (with_reducible repeat (first | apply Kd.R_alloc | apply Kd.R_drewN | apply Kd.R_drew)); exact Kd.R_mono (Kd.R_far (p := ⟨gb1341, 3, none⟩) (Kd.R_far (p := ⟨gb1341, 2, none⟩) (Kd.R_far (p := ⟨gb1341, 1, none⟩) (Kd.R_far (p := ⟨gb1341, 0, none⟩) (Kd.R_types HO_1353002.out BK1341.out (by decide)) (fun _ hk => hk.2) (.int .i64 t1342)) (fun _ hk => hk.2) (.slice Ao17 t1343.length co17)) (fun _ hk => hk.2) (.slice Ao18 t1346.length co18)) (fun _ hk => hk.2) (.slice (some ⟨go50, 0, none⟩) t1349.length co19)) (fun _ hk => ⟨hk.1.1, hk.1.2⟩), by (with_reducible repeat (first | apply Kd.R_alloc | apply Kd.R_drewN | apply Kd.R_drew)); exact Kd.R_mono (Kd.R_far (p := ⟨gb1341, 3, none⟩) (Kd.R_far (p := ⟨gb1341, 2, none⟩) (Kd.R_far (p := ⟨gb1341, 1, none⟩) (Kd.R_far (p := ⟨gb1341, 0, none⟩) (Kd.R_types HO_1353003.out BK1341.out (by decide)) (fun _ hk => hk.2) (.int .i64 t1342)) (fun _ hk => hk.2) (.slice Ao17 t1343.length co17)) (fun _ hk => hk.2) (.slice Ao18 t1346.length co18)) (fun _ hk => hk.2) (.slice (some ⟨go50, 0, none⟩) t1349.length co19)) (fun _ hk => ⟨hk.1.1, hk.1.2⟩), hb_ HB.out⟩
     ·
      rw [if_neg c49] at H
      exact absurd H (by simp)
    ·
     rw [if_neg c48] at H
     exact absurd H (by simp)
end Go.Proofs.Ytiknkolclcdajaa.Q
