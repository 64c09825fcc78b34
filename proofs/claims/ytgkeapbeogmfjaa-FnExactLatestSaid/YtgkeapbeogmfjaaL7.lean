/- The plain side of Latest: program and reference come to one answer, the last item of a key. Condition: lists of at most 2^20 elements. -/
import Derived.Test.YtgkeapbeogmfjaaL0
import Derived.Test.YtgkeapbeogmfjaaQ0
import Derived.Test.YtgkeapbeogmfjaaQ25
import Derived.Test.YtgkeapbeogmfjaaQ27
namespace Go.Proofs.Ytgkeapbeogmfjaa.L
open Go.RowKit Go.Proofs.YtgkeapbeogmfjaaW.PrintWords Go.Proofs.YtgkeapbeogmfjaaW.PrintLast Go.Proofs.YtgkeapbeogmfjaaW.PrintMore Go.Proofs.Ytgkeapbeogmfjaa.Q

theorem rdItem' (l : List S_Item) (i : Nat) (h : i < l.length) : rd_Item l (i : Int) = l[i] := by
  simp [rd_Item, List.getD_eq_getElem?_getD, h]
/-- an answer of Latest -/
def last : Option S_Item → Int × ByteArray × ByteArray × Int × Int × Bool
  | some x => (x.f0, x.f1, x.f2, x.f3, x.f4, true)
  | none => (0, ⟨#[]⟩, ⟨#[]⟩, 0, 0, false)
/-- the last item of a key among the first n -/
def lastOf (key : ByteArray) (l : List S_Item) : Option S_Item := l.reverse.find? fun x => decide (x.f1.toList = key.toList)
theorem lastOf_snoc (key : ByteArray) (l : List S_Item) (x : S_Item) : lastOf key (l ++ [x]) = if x.f1.toList = key.toList then some x else lastOf key l := by
  unfold lastOf
  rw [List.reverse_append, List.reverse_singleton, List.singleton_append]
  split
  · rw [List.find?_cons_of_pos (by simpa using ‹_›)]
  · rw [List.find?_cons_of_neg (by simpa using ‹_›)]
theorem specLatest_l0 (key : ByteArray) (a b : Int) (l : List S_Item) (hn : l.length ≤ 1048576) : ∀ (i : Nat), i ≤ l.length → Ev (fun k => spec_Latest.l0 k key ((i : Int) - 1) a b l) (last (lastOf key (l.take i))) := by
  intro i
  induction i with
  | zero => intro h; exact ev_step (fun _ => rfl) (ev_neg (by omega) (ev_now (by simp [lastOf, last])))
  | succ i ih =>
    intro h
    have e0 : ((i + 1 : Nat) : Int) - 1 = (i : Int) := by omega
    rw [e0, List.take_succ_eq_append_getElem (by omega), lastOf_snoc]
    refine ev_step (fun _ => rfl) (ev_pos (by omega) (ev_pos (by omega) (ev_pos (by omega) ?_)))
    have e : wrap64 ((i : Int) - 1) = (i : Int) - 1 := w64 (by omega) (by omega)
    rw [rdItem' l i (by omega), e]
    refine ev_ite (fun q => ev_now ?_) (fun q => ?_)
    · rw [if_pos q]; rfl
    · rw [if_neg q]; exact ih (by omega)
theorem implLatest_l0 (key : ByteArray) (a b : Int) (l : List S_Item) (hn : l.length ≤ 1048576) : ∀ (i : Nat), i ≤ l.length → Ev (fun k => impl_Latest.l0 k key ((i : Int) - 1) a b l) (last (lastOf key (l.take i))) := by
  intro i
  induction i with
  | zero => intro h; exact ev_step (fun _ => rfl) (ev_neg (by omega) (ev_now (by simp [lastOf, last])))
  | succ i ih =>
    intro h
    have e0 : ((i + 1 : Nat) : Int) - 1 = (i : Int) := by omega
    rw [e0, List.take_succ_eq_append_getElem (by omega), lastOf_snoc]
    refine ev_step (fun _ => rfl) (ev_pos (by omega) (ev_pos (by omega) (ev_pos (by omega) ?_)))
    have e : wrap64 ((i : Int) - 1) = (i : Int) - 1 := w64 (by omega) (by omega)
    rw [rdItem' l i (by omega), e]
    refine ev_ite (fun q => ev_now ?_) (fun q => ?_)
    · rw [if_pos q]; rfl
    · rw [if_neg q]; exact ih (by omega)
theorem specLatest (a b : Int) (l : List S_Item) (key : ByteArray) (hn : l.length ≤ 1048576) : Ev (fun k => spec_Latest.f k a b l key) (last (lastOf key l)) := by
  have e : wrap64 ((l.length : Int) - 1) = (l.length : Int) - 1 := w64 (by omega) (by omega)
  have := specLatest_l0 key a b l hn l.length (Nat.le_refl _)
  show Ev (fun k => spec_Latest.l0 k key (wrap64 ((l.length : Int) - 1)) a b l) _
  rw [e]
  simpa using this
theorem implLatest (a b : Int) (l : List S_Item) (key : ByteArray) (hn : l.length ≤ 1048576) : Ev (fun k => impl_Latest.f k a b l key) (last (lastOf key l)) := by
  have e : wrap64 ((l.length : Int) - 1) = (l.length : Int) - 1 := w64 (by omega) (by omega)
  have := implLatest_l0 key a b l hn l.length (Nat.le_refl _)
  show Ev (fun k => impl_Latest.l0 k key (wrap64 ((l.length : Int) - 1)) a b l) _
  rw [e]
  simpa using this
end Go.Proofs.Ytgkeapbeogmfjaa.L
