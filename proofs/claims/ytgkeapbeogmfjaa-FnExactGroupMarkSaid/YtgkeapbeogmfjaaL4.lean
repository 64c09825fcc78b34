/- The plain side of the laws' marks on lists of numbers and on groups. Condition: lists of at most 2^20 elements. -/
import Derived.Test.YtgkeapbeogmfjaaL0
import Derived.Test.YtgkeapbeogmfjaaQ0
import Derived.Test.YtgkeapbeogmfjaaQ22
namespace Go.Proofs.Ytgkeapbeogmfjaa.L
open Go.RowKit Go.Proofs.YtgkeapbeogmfjaaW.PrintWords Go.Proofs.YtgkeapbeogmfjaaW.PrintLast Go.Proofs.YtgkeapbeogmfjaaW.PrintMore Go.Proofs.Ytgkeapbeogmfjaa.Q

/-- n numbers from q on -/
def upFrom (q n : Nat) : List Int := (List.range n).map fun i => ((q + i : Nat) : Int)
theorem upFrom_len (q n : Nat) : (upFrom q n).length = n := by simp [upFrom]
theorem markIntS_l0 (q n : Nat) (hq : q ≤ 1073741824) (hn : n ≤ 1048576) : ∀ (d i : Nat) (acc : List Int), i + d = n → acc.length = n → acc.take i = upFrom q i →
    Ev (fun k => laws_markIntS.l0 k acc ((q + i : Nat) : Int) (i : Int)) (((q + n : Nat) : Int), upFrom q n) := by
  intro d
  induction d with
  | zero =>
    intro i acc h1 h2 h3
    obtain rfl : i = n := by omega
    refine ev_step (fun _ => rfl) (ev_neg (by omega) (ev_now ?_))
    rw [← h3, List.take_of_length_le (by omega)]
  | succ d ih =>
    intro i acc h1 h2 h3
    refine ev_step (fun _ => rfl) (ev_pos (by omega) (ev_pos (by omega) ?_))
    have e : wrap64 ((i : Int) + 1) = ((i + 1 : Nat) : Int) := by rw [w64 (by omega) (by omega)]; omega
    have e2 : wrap64 (((q + i : Nat) : Int) + 1) = ((q + (i + 1) : Nat) : Int) := by rw [w64 (by omega) (by omega)]; omega
    rw [e, e2, Int.toNat_natCast]
    refine ih (i + 1) _ (by omega) (by simp; omega) ?_
    rw [List.take_succ_eq_append_getElem (by simp; omega), List.take_set_of_le (Nat.le_refl i), List.getElem_set_self, h3]
    simp [upFrom, List.range_succ]
theorem markIntS (q : Nat) (l : List Int) (hq : q ≤ 1073741824) (hn : l.length ≤ 1048576) : Ev (fun k => laws_markIntS.f k l (q : Int)) (((q + l.length : Nat) : Int), upFrom q l.length) := markIntS_l0 q l.length hq hn l.length 0 l (by omega) rfl (by simp [upFrom])
theorem heldIntS_l0 (q n : Nat) (hq : q ≤ 1073741824) (hn : n ≤ 1048576) : ∀ (d i : Nat), i + d = n → Ev (fun k => laws_heldIntS.l0 k (upFrom q n) ((q + i : Nat) : Int) (i : Int)) ((q + n : Nat) : Int) := by
  intro d
  induction d with
  | zero =>
    intro i h1
    obtain rfl : i = n := by omega
    exact ev_step (fun _ => rfl) (ev_neg (by rw [upFrom_len]; omega) (ev_now rfl))
  | succ d ih =>
    intro i h1
    refine ev_step (fun _ => rfl) (ev_pos (by rw [upFrom_len]; omega) (ev_pos (by omega) (ev_pos ?_ ?_)))
    · rw [rd_eq _ i (by rw [upFrom_len]; omega)]
      simp [upFrom]
    · have e : wrap64 ((i : Int) + 1) = ((i + 1 : Nat) : Int) := by rw [w64 (by omega) (by omega)]; omega
      have e2 : wrap64 (((q + i : Nat) : Int) + 1) = ((q + (i + 1) : Nat) : Int) := by rw [w64 (by omega) (by omega)]; omega
      rw [e, e2]
      exact ih (i + 1) (by omega)
theorem heldIntS (q n : Nat) (hq : q ≤ 1073741824) (hn : n ≤ 1048576) : Ev (fun k => laws_heldIntS.f k (upFrom q n) (q : Int)) ((q + n : Nat) : Int) := heldIntS_l0 q n hq hn n 0 (by omega)
theorem markGroup (q : Nat) (g : Int) (m b o : List Int) (hq : q ≤ 1048576) (hm : m.length ≤ 1048576) (hb : b.length ≤ 1048576) (ho : o.length ≤ 1048576) :
    Ev (fun k => laws_markGroup.f k g m b o (q : Int)) (((q + m.length + b.length + o.length : Nat) : Int), upFrom q m.length, upFrom (q + m.length) b.length, upFrom (q + m.length + b.length) o.length) :=
  ev_bind (markIntS q m (by omega) hm) (ev_bind (markIntS (q + m.length) b (by omega) hb) (ev_bind (markIntS (q + m.length + b.length) o (by omega) ho) (ev_now rfl)))
theorem heldGroup (q : Nat) (g : Int) (m b o : Nat) (hq : q ≤ 1048576) (hm : m ≤ 1048576) (hb : b ≤ 1048576) (ho : o ≤ 1048576) :
    Ev (fun k => laws_heldGroup.f k g (upFrom q m) (upFrom (q + m) b) (upFrom (q + m + b) o) (q : Int)) ((q + m + b + o : Nat) : Int) :=
  ev_bind (heldIntS q m (by omega) hm) (ev_neg (by omega) (ev_bind (heldIntS (q + m) b (by omega) hb) (ev_neg (by omega) (ev_bind (heldIntS (q + m + b) o (by omega) ho) (ev_neg (by omega) (ev_now rfl))))))
end Go.Proofs.Ytgkeapbeogmfjaa.L
