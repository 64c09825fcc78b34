/- The plain side of the laws' own words on marks and makers, and of MakerAsk: program and reference come to one answer. Condition: lists of at most 2^20 elements behind the size's test. -/
import Derived.Test.YtgkeapbeogmfjaaL0
import Derived.Test.YtgkeapbeogmfjaaQ0
import Derived.Test.YtgkeapbeogmfjaaQ30
import Derived.Test.YtgkeapbeogmfjaaQ31
import Derived.Test.YtgkeapbeogmfjaaQ32
import Derived.Test.YtgkeapbeogmfjaaQ33
import Derived.Test.YtgkeapbeogmfjaaQ34
import Derived.Test.YtgkeapbeogmfjaaQ35
namespace Go.Proofs.Ytgkeapbeogmfjaa.L
open Go.RowKit Go.Proofs.YtgkeapbeogmfjaaW.PrintWords Go.Proofs.YtgkeapbeogmfjaaW.PrintLast Go.Proofs.YtgkeapbeogmfjaaW.PrintMore Go.Proofs.Ytgkeapbeogmfjaa.Q

/-- a mark of the laws as one of the program -/
def mark (x : S_LMark) : S_Mark := ⟨x.f0, x.f1⟩
def marks (l : List S_LMark) : List S_Mark := l.map mark
theorem marks_len (l : List S_LMark) : (marks l).length = l.length := by simp [marks]
theorem rdLM (l : List S_LMark) (i : Nat) (h : i < l.length) : rd_LMark l (i : Int) = l[i] := by
  simp [rd_LMark, List.getD_eq_getElem?_getD, h]
theorem rdM (l : List S_Mark) (i : Nat) (h : i < l.length) : rd_Mark l (i : Int) = l[i] := by
  simp [rd_Mark, List.getD_eq_getElem?_getD, h]
theorem toMarkS_l0 (l : List S_LMark) (hn : l.length ≤ 1048576) : ∀ (d i : Nat) (acc : List S_Mark), i + d = l.length → acc.length = l.length → Ev (fun k => laws_toMarkS.l0 k l acc (i : Int)) (acc.take i ++ (marks l).drop i) := by
  intro d
  induction d with
  | zero =>
    intro i acc h1 h2
    refine ev_step (fun _ => rfl) (ev_neg (by omega) (ev_now ?_))
    simp [List.take_of_length_le (show acc.length ≤ i by omega), List.drop_eq_nil_of_le (show (marks l).length ≤ i by rw [marks_len]; omega)]
  | succ d ih =>
    intro i acc h1 h2
    refine ev_step (fun _ => rfl) (ev_pos (by omega) (ev_pos (by omega) (ev_some rfl (ev_pos (by omega) ?_))))
    have e : wrap64 ((i : Int) + 1) = ((i + 1 : Nat) : Int) := by rw [w64 (by omega) (by omega)]; omega
    rw [e, Int.toNat_natCast, rdLM l i (by omega)]
    refine ev_eq ?_ (ih (i + 1) (acc.set i (mark l[i])) (by omega) (by simp; omega))
    rw [List.take_succ_eq_append_getElem (by simp; omega), List.take_set_of_le (Nat.le_refl i), List.getElem_set_self, List.drop_eq_getElem_cons (show i < (marks l).length by rw [marks_len]; omega)]
    simp [marks]
theorem toMarkS (l : List S_LMark) (hn : l.length ≤ 1048576) : Ev (fun k => laws_toMarkS.f k l) (marks l) := by
  refine ev_pos (by omega) (ev_pos (by omega) ?_)
  have := toMarkS_l0 l hn l.length 0 (List.replicate ((l.length : Int)).toNat z_Mark) (by omega) (by simp)
  simpa using this
theorem toMaker (a b c d : Int) (l : List S_LMark) (hn : l.length ≤ 1048576) : Ev (fun k => laws_toMaker.f k a b c d l) (a, b, c, d, marks l) := ev_bind (toMarkS l hn) (ev_now rfl)
theorem eqMark (x : S_Mark) : laws_eqMark.f x.f0 x.f1 x.f0 x.f1 = some true := by simp [laws_eqMark.f]
theorem eqMarkS_l0 (l : List S_Mark) (hn : l.length ≤ 1048576) : ∀ (d i : Nat), i + d = l.length → Ev (fun k => laws_eqMarkS.l0 k l l (i : Int)) true := by
  intro d
  induction d with
  | zero => intro i h; exact ev_step (fun _ => rfl) (ev_neg (by omega) (ev_now rfl))
  | succ d ih =>
    intro i h
    refine ev_step (fun _ => rfl) (ev_pos (by omega) (ev_pos (by omega) (ev_pos (by omega) (ev_some (eqMark _) (ev_pos rfl ?_)))))
    have e : wrap64 ((i : Int) + 1) = ((i + 1 : Nat) : Int) := by rw [w64 (by omega) (by omega)]; omega
    rw [e]
    exact ih (i + 1) (by omega)
theorem eqMarkS (l : List S_Mark) (hn : l.length ≤ 1048576) : Ev (fun k => laws_eqMarkS.f k l l) true := ev_pos rfl (eqMarkS_l0 l hn l.length 0 (by omega))
theorem eqMaker (a b c d : Int) (l : List S_Mark) (hn : l.length ≤ 1048576) : Ev (fun k => laws_eqMaker.f k a b c d l a b c d l) true := ev_pos rfl (ev_pos rfl (ev_pos rfl (ev_pos rfl (ev_bind (eqMarkS l hn) (ev_pos rfl (ev_now rfl))))))
theorem szMaker (a b c d : Int) (l : List S_LMark) (hl : l.length ≤ maxLen) : ∃ r, laws_szMaker.f a b c d l 1048576 = some r ∧ (0 ≤ r → l.length ≤ 1048576) := by
  unfold maxLen at hl
  have e : wrap64 (1048576 - (l.length : Int)) = 1048576 - (l.length : Int) := w64 (by omega) (by omega)
  unfold laws_szMaker.f laws_szMarkS.f
  rw [e]
  by_cases h : 1048576 - (l.length : Int) < 0
  · rw [if_pos h]
    exact ⟨-1, rfl, fun q => absurd q (by omega)⟩
  · rw [if_neg h]
    refine ⟨1048576 - (l.length : Int), ?_, fun _ => by omega⟩
    show (if 1048576 - (l.length : Int) < 0 then some (-1) else some (1048576 - (l.length : Int))) = _
    rw [if_neg h]
/-- an answer of MakerAsk out of its window -/
def askOf : Option S_Mark → Int × Int
  | some x => (1, x.f1)
  | none => (2, 0)
theorem specAsk_row (q a b c e0 : Int) (l : List S_Mark) (hn : l.length ≤ 1048576) : ∀ (d i : Nat), i + d = l.length → Ev (fun k => spec_MakerAsk.l0 k q (i : Int) a b c e0 l) (askOf ((l.drop i).find? fun x => decide (x.f0 = q))) := by
  intro d
  induction d with
  | zero =>
    intro i h
    refine ev_step (fun _ => rfl) (ev_neg (by omega) (ev_now ?_))
    rw [List.drop_eq_nil_of_le (by omega)]
    rfl
  | succ d ih =>
    intro i h
    have e : wrap64 ((i : Int) + 1) = ((i + 1 : Nat) : Int) := by rw [w64 (by omega) (by omega)]; omega
    refine ev_step (fun _ => rfl) (ev_pos (by omega) (ev_pos (by omega) ?_))
    rw [rdM l i (by omega), List.drop_eq_getElem_cons (show i < l.length by omega), e]
    refine ev_ite (fun q => ev_now ?_) (fun q => ?_)
    · rw [List.find?_cons_of_pos (by simpa using q)]
      rfl
    · rw [List.find?_cons_of_neg (by simpa using q)]
      exact ih (i + 1) (by omega)
theorem implAsk_row (q : Int) (l : List S_Mark) (hn : l.length ≤ 1048576) : ∀ (d i : Nat), i + d = l.length → Ev (fun k => impl_MakerAsk.l0 k q l (l.length : Int) (i : Int)) (askOf ((l.drop i).find? fun x => decide (x.f0 = q))) := by
  intro d
  induction d with
  | zero =>
    intro i h
    refine ev_step (fun _ => rfl) (ev_neg (by omega) (ev_now ?_))
    rw [List.drop_eq_nil_of_le (by omega)]
    rfl
  | succ d ih =>
    intro i h
    have e : wrap64 ((i : Int) + 1) = ((i + 1 : Nat) : Int) := by rw [w64 (by omega) (by omega)]; omega
    refine ev_step (fun _ => rfl) (ev_pos (by omega) (ev_pos (by omega) (ev_pos (by omega) ?_)))
    rw [rdM l i (by omega), List.drop_eq_getElem_cons (show i < l.length by omega), e]
    refine ev_ite (fun q => ev_now ?_) (fun q => ?_)
    · rw [List.find?_cons_of_pos (by simpa using q)]
      rfl
    · rw [List.find?_cons_of_neg (by simpa using q)]
      exact ih (i + 1) (by omega)
/-- what MakerAsk comes to -/
def makerAsk (ep last : Int) (l : List S_Mark) (e q : Int) : Int × Int :=
  if e < ep then (4, 0) else if e > ep then (if q = 0 then (0, 0) else (3, 0)) else if q > last then (if wrap64 (q - 1) = last then (0, 0) else (3, 0)) else askOf (l.find? fun x => decide (x.f0 = q))
theorem specMakerAsk (a b ep last e q : Int) (l : List S_Mark) (hn : l.length ≤ 1048576) : Ev (fun k => spec_MakerAsk.f k a b ep last l e q) (makerAsk ep last l e q) := by
  unfold makerAsk
  refine ev_ite (fun h => ev_now (by rw [if_pos h])) (fun h => ?_)
  rw [if_neg h]
  refine ev_ite (fun h2 => ?_) (fun h2 => ?_)
  · rw [if_pos h2]
    exact ev_ite (fun h3 => ev_now (by rw [if_pos h3])) (fun h3 => ev_now (by rw [if_neg h3]))
  · rw [if_neg h2]
    refine ev_ite (fun h3 => ?_) (fun h3 => ?_)
    · rw [if_pos h3]
      exact ev_ite (fun h4 => ev_now (by rw [if_pos h4])) (fun h4 => ev_now (by rw [if_neg h4]))
    · rw [if_neg h3]
      simpa using specAsk_row q a b ep last l hn l.length 0 (by omega)
theorem implMakerAsk (a b ep last e q : Int) (l : List S_Mark) (hn : l.length ≤ 1048576) : Ev (fun k => impl_MakerAsk.f k a b ep last l e q) (makerAsk ep last l e q) := by
  unfold makerAsk
  refine ev_ite (fun h => ev_now (by rw [if_pos h])) (fun h => ?_)
  rw [if_neg h]
  refine ev_ite (fun h2 => ?_) (fun h2 => ?_)
  · rw [if_pos h2]
    refine ev_step (fun _ => by rw [impl_MakerAsk.j0]) ?_
    refine ev_ite (fun h3 => ev_now ?_) (fun h3 => ev_pos h2 (ev_now ?_))
    · rw [if_pos (by simpa using h3)]
    · rw [if_neg (by simpa using h3)]
  · rw [if_neg h2]
    refine ev_step (fun _ => by rw [impl_MakerAsk.j0]) ?_
    refine ev_neg (by simp) (ev_neg h2 ?_)
    refine ev_ite (fun h3 => ?_) (fun h3 => ?_)
    · rw [if_pos h3]
      refine ev_step (fun _ => by rw [impl_MakerAsk.j1]) ?_
      refine ev_ite (fun h4 => ev_now ?_) (fun h4 => ev_pos h3 (ev_now ?_))
      · rw [if_pos (by simpa using h4)]
      · rw [if_neg (by simpa using h4)]
    · rw [if_neg h3]
      refine ev_step (fun _ => by rw [impl_MakerAsk.j1]) ?_
      refine ev_neg (by simp) (ev_neg h3 ?_)
      refine ev_step (fun _ => by rw [impl_MakerAsk.j2]) ?_
      simpa using implAsk_row q l hn l.length 0 (by omega)
end Go.Proofs.Ytgkeapbeogmfjaa.L
