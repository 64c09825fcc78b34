/- The plain side of right texts: program and reference come to one answer. Condition: texts of at most 2^63 - 1 bytes, as any text that is read. -/
import Derived.Test.YtgkeapbeogmfjaaL0
import Derived.Test.YtgkeapbeogmfjaaL2a
import Derived.Test.YtgkeapbeogmfjaaQ0
import Derived.Test.YtgkeapbeogmfjaaQ10
import Derived.Test.YtgkeapbeogmfjaaQ8
namespace Go.Proofs.Ytgkeapbeogmfjaa.L
open Go.RowKit Go.Proofs.YtgkeapbeogmfjaaW.PrintWords Go.Proofs.YtgkeapbeogmfjaaW.PrintLast Go.Proofs.YtgkeapbeogmfjaaW.PrintMore Go.Proofs.Ytgkeapbeogmfjaa.Q

/-- may a byte stand in a text -/
def okB (b : Int) : Prop := 97 ≤ b ∧ b ≤ 122 ∨ 48 ≤ b ∧ b ≤ 57 ∨ b = 32
instance (b : Int) : Decidable (okB b) := by unfold okB; infer_instance
/-- are all bytes from i on right -/
def okFrom (s : ByteArray) : Nat → Nat → Bool
  | 0, _ => true
  | d + 1, i => decide (okB (bt s i)) && okFrom s d (i + 1)
/-- what wordsOk comes to -/
def words (s : ByteArray) : Bool := okFrom s s.size 0 && decide ((s.size : Int) ≤ 30)
theorem specText_l0 (s : ByteArray) (hs : s.size ≤ 9223372036854775807) : ∀ (d i : Nat), i + d = s.size → Ev (fun k => spec_l2Text.l0 k s (i : Int)) (okFrom s d i && decide ((s.size : Int) ≤ 30)) := by
  intro d
  induction d with
  | zero => intro i h; exact ev_step (fun _ => rfl) (ev_neg (by omega) (ev_now (by simp [okFrom])))
  | succ d ih =>
    intro i h
    have e : wrap64 ((i : Int) + 1) = ((i + 1 : Nat) : Int) := by rw [w64 (by omega) (by omega)]; omega
    have cont : okB (bt s i) → Ev (fun k => spec_l2Text.l0 k s (wrap64 ((i : Int) + 1))) (okFrom s (d + 1) i && decide ((s.size : Int) ≤ 30)) := fun q => by rw [e]; simpa [okFrom, q] using ih (i + 1) (by omega)
    have stop : ¬ okB (bt s i) → Ev (fun _ => some false) (okFrom s (d + 1) i && decide ((s.size : Int) ≤ 30)) := fun q => ev_now (by simp [okFrom, q])
    refine ev_step (fun _ => rfl) (ev_pos (by omega) (ev_pos (by omega) ?_))
    repeat' refine ev_ite (fun _ => ?_) (fun _ => ?_)
    all_goals first | (refine cont ?_; unfold okB; omega) | (refine stop ?_; unfold okB; omega)
theorem implText_l0 (s : ByteArray) (hs : s.size ≤ 9223372036854775807) : ∀ (d i : Nat), i + d = s.size → Ev (fun k => impl_wordsOk.l0 k s (i : Int)) (okFrom s d i && decide ((s.size : Int) ≤ 30)) := by
  intro d
  induction d with
  | zero => intro i h; exact ev_step (fun _ => rfl) (ev_neg (by omega) (ev_now (by simp [okFrom])))
  | succ d ih =>
    intro i h
    have e : wrap64 ((i : Int) + 1) = ((i + 1 : Nat) : Int) := by rw [w64 (by omega) (by omega)]; omega
    have cont : okB (bt s i) → Ev (fun k => impl_wordsOk.l0 k s (wrap64 ((i : Int) + 1))) (okFrom s (d + 1) i && decide ((s.size : Int) ≤ 30)) := fun q => by rw [e]; simpa [okFrom, q] using ih (i + 1) (by omega)
    have stop : ¬ okB (bt s i) → Ev (fun _ => some false) (okFrom s (d + 1) i && decide ((s.size : Int) ≤ 30)) := fun q => ev_now (by simp [okFrom, q])
    refine ev_step (fun _ => rfl) (ev_pos (by omega) (ev_pos (by omega) ?_))
    repeat' refine ev_ite (fun _ => ?_) (fun _ => ?_)
    all_goals first | (refine cont ?_; unfold okB; omega) | (refine stop ?_; unfold okB; omega)
theorem specWords (s : ByteArray) (hs : s.size ≤ 9223372036854775807) : Ev (fun k => spec_l2Text.f k s) (words s) := specText_l0 s hs s.size 0 (by omega)
theorem implWords (s : ByteArray) (hs : s.size ≤ 9223372036854775807) : Ev (fun k => impl_wordsOk.f k s) (words s) := implText_l0 s hs s.size 0 (by omega)
theorem ev_last {g : Nat → Option Bool} {d : Bool} (h : Ev g d) : Ev (fun n => (g n).bind fun t => some t) d := Ev.bind h (Ev.now d)
end Go.Proofs.Ytgkeapbeogmfjaa.L
