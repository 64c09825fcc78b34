/- The plain side of numbers within bounds, of right texts, of commands and answers: program and reference come to one answer. Condition: texts of at most 2^63 - 1 bytes, as any text that is read. -/
import Derived.Test.YthkepjgolaichaaL0
import Derived.Test.YthkepjgolaichaaQ0
import Derived.Test.YthkepjgolaichaaQ20
import Derived.Test.YthkepjgolaichaaQ21
import Derived.Test.YthkepjgolaichaaQ3
import Derived.Test.YthkepjgolaichaaQ4
import Derived.Test.YthkepjgolaichaaQ5
import Derived.Test.YthkepjgolaichaaQ7
namespace Go.Proofs.Ythkepjgolaichaa.L
open Go.RowKit Go.Proofs.YthkepjgolaichaaW.PrintWords Go.Proofs.YthkepjgolaichaaW.PrintLast Go.Proofs.YthkepjgolaichaaW.PrintMore Go.Proofs.Ythkepjgolaichaa.Q

/-- is a number within bounds -/
def inb (x a b : Int) : Bool := decide (a ≤ x) && decide (x ≤ b)
theorem specIn (x a b : Int) : spec_l1In.f x a b = some (inb x a b) := by
  unfold spec_l1In.f inb
  by_cases h : x ≥ a
  · rw [if_pos h]; simp [show a ≤ x from h]
  · rw [if_neg h]; simp [show ¬ a ≤ x from h]
theorem implIn (x a b : Int) : impl_within.f x a b = some (inb x a b) := by
  unfold impl_within.f inb
  by_cases h : x ≥ a
  · rw [if_pos h]; simp [show a ≤ x from h]
  · rw [if_neg h]; simp [show ¬ a ≤ x from h]
theorem inb_true {x a b : Int} : inb x a b = true ↔ a ≤ x ∧ x ≤ b := by simp [inb]
theorem ev_and {g : Nat → Option Bool} {c d : Bool} (h : c = true → Ev g d) : Ev (fun n => if c = true then (g n) else some false) (c && d) := by
  cases c with
  | false => exact ev_neg (by simp) (ev_now rfl)
  | true => exact ev_pos rfl (by simpa using h rfl)

/-- may a byte stand in a text -/
def okB (b : Int) : Prop := 97 ≤ b ∧ b ≤ 122 ∨ 48 ≤ b ∧ b ≤ 57 ∨ b = 32
instance (b : Int) : Decidable (okB b) := by unfold okB; infer_instance
/-- are all bytes from i on right -/
def okFrom (s : ByteArray) : Nat → Nat → Bool
  | 0, _ => true
  | d + 1, i => decide (okB (bt s i)) && okFrom s d (i + 1)
/-- what wordsOk comes to -/
def words (s : ByteArray) : Bool := okFrom s s.size 0 && decide ((s.size : Int) ≤ 30)
theorem specText_l0 (s : ByteArray) (hs : s.size ≤ 9223372036854775807) : ∀ (d i : Nat), i + d = s.size → Ev (fun k => spec_l2Text.l0 k s (i : Int)) (okFrom s d i && decide ((s.size : Int) ≤ 30)) := by
  intro d
  induction d with
  | zero => intro i h; exact ev_step (fun _ => rfl) (ev_neg (by omega) (ev_now (by simp [okFrom])))
  | succ d ih =>
    intro i h
    have e : wrap64 ((i : Int) + 1) = ((i + 1 : Nat) : Int) := by rw [w64 (by omega) (by omega)]; omega
    have cont : okB (bt s i) → Ev (fun k => spec_l2Text.l0 k s (wrap64 ((i : Int) + 1))) (okFrom s (d + 1) i && decide ((s.size : Int) ≤ 30)) := fun q => by rw [e]; simpa [okFrom, q] using ih (i + 1) (by omega)
    have stop : ¬ okB (bt s i) → Ev (fun _ => some false) (okFrom s (d + 1) i && decide ((s.size : Int) ≤ 30)) := fun q => ev_now (by simp [okFrom, q])
    refine ev_step (fun _ => rfl) (ev_pos (by omega) (ev_pos (by omega) ?_))
    repeat' refine ev_ite (fun _ => ?_) (fun _ => ?_)
    all_goals first | (refine cont ?_; unfold okB; omega) | (refine stop ?_; unfold okB; omega)
theorem implText_l0 (s : ByteArray) (hs : s.size ≤ 9223372036854775807) : ∀ (d i : Nat), i + d = s.size → Ev (fun k => impl_wordsOk.l0 k s (i : Int)) (okFrom s d i && decide ((s.size : Int) ≤ 30)) := by
  intro d
  induction d with
  | zero => intro i h; exact ev_step (fun _ => rfl) (ev_neg (by omega) (ev_now (by simp [okFrom])))
  | succ d ih =>
    intro i h
    have e : wrap64 ((i : Int) + 1) = ((i + 1 : Nat) : Int) := by rw [w64 (by omega) (by omega)]; omega
    have cont : okB (bt s i) → Ev (fun k => impl_wordsOk.l0 k s (wrap64 ((i : Int) + 1))) (okFrom s (d + 1) i && decide ((s.size : Int) ≤ 30)) := fun q => by rw [e]; simpa [okFrom, q] using ih (i + 1) (by omega)
    have stop : ¬ okB (bt s i) → Ev (fun _ => some false) (okFrom s (d + 1) i && decide ((s.size : Int) ≤ 30)) := fun q => ev_now (by simp [okFrom, q])
    refine ev_step (fun _ => rfl) (ev_pos (by omega) (ev_pos (by omega) ?_))
    repeat' refine ev_ite (fun _ => ?_) (fun _ => ?_)
    all_goals first | (refine cont ?_; unfold okB; omega) | (refine stop ?_; unfold okB; omega)
theorem specWords (s : ByteArray) (hs : s.size ≤ 9223372036854775807) : Ev (fun k => spec_l2Text.f k s) (words s) := specText_l0 s hs s.size 0 (by omega)
theorem implWords (s : ByteArray) (hs : s.size ≤ 9223372036854775807) : Ev (fun k => impl_wordsOk.f k s) (words s) := implText_l0 s hs s.size 0 (by omega)
/-- what AnswerOk comes to -/
def answerOk (c n : Int) (k t : ByteArray) : Bool := inb c 0 9 && (inb n (-1) 100000 && (words k && words t))
theorem ev_last {g : Nat → Option Bool} {d : Bool} (h : Ev g d) : Ev (fun n => (g n).bind fun t => some t) d := Ev.bind h (Ev.now d)
theorem specAnswer (c n : Int) (k t : ByteArray) (hk : k.size ≤ maxLen) (ht : t.size ≤ maxLen) : Ev (fun m => spec_AnswerOk.f m c n k t) (answerOk c n k t) := by
  unfold maxLen at hk ht
  exact ev_some (specIn _ _ _) (ev_and fun _ => ev_some (specIn _ _ _) (ev_and fun _ => ev_bind (specWords k (by omega)) (ev_and fun _ => ev_last (specWords t (by omega)))))
theorem implAnswer (c n : Int) (k t : ByteArray) (hk : k.size ≤ maxLen) (ht : t.size ≤ maxLen) : Ev (fun m => impl_AnswerOk.f m c n k t) (answerOk c n k t) := by
  unfold maxLen at hk ht
  exact ev_some (implIn _ _ _) (ev_and fun _ => ev_some (implIn _ _ _) (ev_and fun _ => ev_bind (implWords k (by omega)) (ev_and fun _ => ev_last (implWords t (by omega)))))
/-- what CmdOk comes to -/
def cmdOk (w s o a b c : Int) (k t : ByteArray) : Bool :=
  if w = -1 then (w == (-1) && (s == 0 && (o == 0 && (a == 0 && (b == 0 && (c == 0 && (k.toList == ([] : List UInt8) && (t.toList == ([] : List UInt8)))))))))
  else inb w 0 3 && (inb s 1 100000 && (inb o 1 10 && (inb a 0 100000 && (inb b 0 100000 && (inb c 0 100000 && (words k && words t))))))
theorem specCmd (w s o a b c : Int) (k t : ByteArray) (hk : k.size ≤ maxLen) (ht : t.size ≤ maxLen) : Ev (fun m => spec_CmdOk.f m w s o a b c k t) (cmdOk w s o a b c k t) := by
  unfold maxLen at hk ht
  unfold cmdOk
  refine ev_ite (fun h => ev_now ?_) (fun h => ?_)
  · rw [if_pos h]
  · rw [if_neg h]
    exact ev_some (specIn _ _ _) (ev_and fun _ => ev_some (specIn _ _ _) (ev_and fun _ => ev_some (specIn _ _ _) (ev_and fun _ => ev_some (specIn _ _ _) (ev_and fun _ => ev_some (specIn _ _ _) (ev_and fun _ => ev_some (specIn _ _ _) (ev_and fun _ => ev_bind (specWords k (by omega)) (ev_and fun _ => ev_last (specWords t (by omega)))))))))
theorem implCmd (w s o a b c : Int) (k t : ByteArray) (hk : k.size ≤ maxLen) (ht : t.size ≤ maxLen) : Ev (fun m => impl_CmdOk.f m w s o a b c k t) (cmdOk w s o a b c k t) := by
  unfold maxLen at hk ht
  unfold cmdOk
  refine ev_ite (fun h => ev_now ?_) (fun h => ?_)
  · rw [if_pos h]
  · rw [if_neg h]
    exact ev_some (implIn _ _ _) (ev_and fun _ => ev_some (implIn _ _ _) (ev_and fun _ => ev_some (implIn _ _ _) (ev_and fun _ => ev_some (implIn _ _ _) (ev_and fun _ => ev_some (implIn _ _ _) (ev_and fun _ => ev_some (implIn _ _ _) (ev_and fun _ => ev_bind (implWords k (by omega)) (ev_and fun _ => ev_last (implWords t (by omega)))))))))
/-- what SetupOk comes to -/
def setupOk (r w l k : Int) : Bool := inb r 1 4 && (inb w 1 5 && (inb l 1 8 && inb k 0 60))
theorem so_and {c : Bool} {g : Option Bool} {d : Bool} (h : c = true → g = some d) : (if c = true then g else some false) = some (c && d) := by
  cases c with
  | false => rfl
  | true => simpa using h rfl
theorem specSetup (r w l k : Int) : spec_SetupOk.f r w l k = some (setupOk r w l k) := by
  unfold spec_SetupOk.f setupOk
  simp only [specIn, Option.bind_some]
  exact so_and fun _ => so_and fun _ => so_and fun _ => rfl
theorem implSetup (r w l k : Int) : impl_SetupOk.f r w l k = some (setupOk r w l k) := by
  unfold impl_SetupOk.f setupOk
  simp only [implIn, Option.bind_some]
  exact so_and fun _ => so_and fun _ => so_and fun _ => rfl
end Go.Proofs.Ythkepjgolaichaa.L
