/- The plain side of RowGet and Latest: program and reference come to one answer, the first item from a number on, the last of a key. Condition: lists of at most 2^20 elements. -/
import Derived.Test.YtgkeapbeogmfjaaL0
import Derived.Test.YtgkeapbeogmfjaaQ0
import Derived.Test.YtgkeapbeogmfjaaQ43
import Derived.Test.YtgkeapbeogmfjaaQ44
namespace Go.Proofs.Ytgkeapbeogmfjaa.L
open Go.RowKit Go.Proofs.YtgkeapbeogmfjaaW.PrintWords Go.Proofs.YtgkeapbeogmfjaaW.PrintLast Go.Proofs.YtgkeapbeogmfjaaW.PrintMore Go.Proofs.Ytgkeapbeogmfjaa.Q

theorem rdItem (l : List S_Item) (i : Nat) (h : i < l.length) : rd_Item l (i : Int) = l[i] := by
  simp [rd_Item, List.getD_eq_getElem?_getD, h]
/-- an answer of RowGet -/
def got : Option S_Item → Int × ByteArray × ByteArray × Int × Int × Int
  | some x => (x.f0, x.f1, x.f2, x.f3, x.f4, 0)
  | none => (0, ⟨#[]⟩, ⟨#[]⟩, 0, 0, 2)
theorem specGet_row (off a b : Int) (l : List S_Item) (hn : l.length ≤ 1048576) : ∀ (d i : Nat), i + d = l.length → Ev (fun k => spec_RowGet.l0 k off (i : Int) a b l) (got ((l.drop i).find? fun x => decide (x.f0 ≥ off))) := by
  intro d
  induction d with
  | zero =>
    intro i h
    refine ev_step (fun _ => rfl) (ev_neg (by omega) (ev_now ?_))
    rw [List.drop_eq_nil_of_le (by omega)]
    rfl
  | succ d ih =>
    intro i h
    have e : wrap64 ((i : Int) + 1) = ((i + 1 : Nat) : Int) := by rw [w64 (by omega) (by omega)]; omega
    refine ev_step (fun _ => rfl) (ev_pos (by omega) (ev_pos (by omega) ?_))
    rw [rdItem l i (by omega), List.drop_eq_getElem_cons (show i < l.length by omega), e]
    refine ev_ite (fun q => ev_now ?_) (fun q => ?_)
    · rw [List.find?_cons_of_pos (by simpa using q)]
      rfl
    · rw [List.find?_cons_of_neg (by simpa using q)]
      exact ih (i + 1) (by omega)
theorem implGet_row (off : Int) (l : List S_Item) (hn : l.length ≤ 1048576) : ∀ (d i : Nat), i + d = l.length → Ev (fun k => impl_RowGet.l0 k off l (l.length : Int) (i : Int)) (got ((l.drop i).find? fun x => decide (x.f0 ≥ off))) := by
  intro d
  induction d with
  | zero =>
    intro i h
    refine ev_step (fun _ => rfl) (ev_neg (by omega) (ev_now ?_))
    rw [List.drop_eq_nil_of_le (by omega)]
    rfl
  | succ d ih =>
    intro i h
    have e : wrap64 ((i : Int) + 1) = ((i + 1 : Nat) : Int) := by rw [w64 (by omega) (by omega)]; omega
    refine ev_step (fun _ => rfl) (ev_pos (by omega) (ev_pos (by omega) (ev_pos (by omega) ?_)))
    rw [rdItem l i (by omega), List.drop_eq_getElem_cons (show i < l.length by omega), e]
    refine ev_ite (fun q => ev_now ?_) (fun q => ?_)
    · rw [List.find?_cons_of_pos (by simpa using q)]
      rfl
    · rw [List.find?_cons_of_neg (by simpa using q)]
      exact ih (i + 1) (by omega)
/-- what RowGet comes to -/
def rowGet (start off : Int) (l : List S_Item) : Int × ByteArray × ByteArray × Int × Int × Int :=
  if off < start then (0, ⟨#[]⟩, ⟨#[]⟩, 0, 0, 1) else got (l.find? fun x => decide (x.f0 ≥ off))
theorem specRowGet (a b off : Int) (l : List S_Item) (hn : l.length ≤ 1048576) : Ev (fun k => spec_RowGet.f k a b l off) (rowGet a off l) := by
  unfold rowGet
  refine ev_ite (fun q => ev_now ?_) (fun q => ?_)
  · rw [if_pos q]
  · rw [if_neg q]
    simpa using specGet_row off a b l hn l.length 0 (by omega)
theorem implRowGet (a b off : Int) (l : List S_Item) (hn : l.length ≤ 1048576) : Ev (fun k => impl_RowGet.f k a b l off) (rowGet a off l) := by
  unfold rowGet
  refine ev_ite (fun q => ev_now ?_) (fun q => ?_)
  · rw [if_pos q]
  · rw [if_neg q]
    simpa using implGet_row off l hn l.length 0 (by omega)
end Go.Proofs.Ytgkeapbeogmfjaa.L
