/- The plain side of the laws' own words on items and rows: copies, comparisons, sizes. Condition: lists of at most 2^20 elements behind the size's test. -/
import Derived.Test.YtgkeapbeogmfjaaL0
import Derived.Test.YtgkeapbeogmfjaaQ0
import Derived.Test.YtgkeapbeogmfjaaQ25
import Derived.Test.YtgkeapbeogmfjaaQ26
import Derived.Test.YtgkeapbeogmfjaaQ27
import Derived.Test.YtgkeapbeogmfjaaQ28
namespace Go.Proofs.Ytgkeapbeogmfjaa.L
open Go.RowKit Go.Proofs.YtgkeapbeogmfjaaW.PrintWords Go.Proofs.YtgkeapbeogmfjaaW.PrintLast Go.Proofs.YtgkeapbeogmfjaaW.PrintMore Go.Proofs.Ytgkeapbeogmfjaa.Q

/-- an item of the laws as one of the program -/
def item (x : S_LItem) : S_Item := ⟨x.f0, x.f1, x.f2, x.f3, x.f4⟩
def items (l : List S_LItem) : List S_Item := l.map item
theorem items_len (l : List S_LItem) : (items l).length = l.length := by simp [items]
theorem rdL (l : List S_LItem) (i : Nat) (h : i < l.length) : rd_LItem l (i : Int) = l[i] := by
  simp [rd_LItem, List.getD_eq_getElem?_getD, h]
theorem rdI (l : List S_Item) (i : Nat) (h : i < l.length) : rd_Item l (i : Int) = l[i] := by
  simp [rd_Item, List.getD_eq_getElem?_getD, h]
theorem toItemS_l0 (l : List S_LItem) (hn : l.length ≤ 1048576) : ∀ (d i : Nat) (acc : List S_Item), i + d = l.length → acc.length = l.length → Ev (fun k => laws_toItemS.l0 k l acc (i : Int)) (acc.take i ++ (items l).drop i) := by
  intro d
  induction d with
  | zero =>
    intro i acc h1 h2
    refine ev_step (fun _ => rfl) (ev_neg (by omega) (ev_now ?_))
    simp [List.take_of_length_le (show acc.length ≤ i by omega), List.drop_eq_nil_of_le (show (items l).length ≤ i by rw [items_len]; omega)]
  | succ d ih =>
    intro i acc h1 h2
    refine ev_step (fun _ => rfl) (ev_pos (by omega) (ev_pos (by omega) (ev_some rfl (ev_pos (by omega) ?_))))
    have e : wrap64 ((i : Int) + 1) = ((i + 1 : Nat) : Int) := by rw [w64 (by omega) (by omega)]; omega
    rw [e, Int.toNat_natCast, rdL l i (by omega)]
    refine ev_eq ?_ (ih (i + 1) (acc.set i (item l[i])) (by omega) (by simp; omega))
    rw [List.take_succ_eq_append_getElem (by simp; omega), List.take_set_of_le (Nat.le_refl i), List.getElem_set_self, List.drop_eq_getElem_cons (show i < (items l).length by rw [items_len]; omega)]
    simp [items]
theorem toItemS (l : List S_LItem) (hn : l.length ≤ 1048576) : Ev (fun k => laws_toItemS.f k l) (items l) := by
  refine ev_pos (by omega) (ev_pos (by omega) ?_)
  have := toItemS_l0 l hn l.length 0 (List.replicate ((l.length : Int)).toNat z_Item) (by omega) (by simp)
  simpa using this
theorem toRow (a b : Int) (l : List S_LItem) (hn : l.length ≤ 1048576) : Ev (fun k => laws_toRow.f k a b l) (a, b, items l) := ev_bind (toItemS l hn) (ev_now rfl)
theorem eqItem (x : S_Item) : laws_eqItem.f x.f0 x.f1 x.f2 x.f3 x.f4 x.f0 x.f1 x.f2 x.f3 x.f4 = some true := by simp [laws_eqItem.f]
theorem eqItemS_l0 (l : List S_Item) (hn : l.length ≤ 1048576) : ∀ (d i : Nat), i + d = l.length → Ev (fun k => laws_eqItemS.l0 k l l (i : Int)) true := by
  intro d
  induction d with
  | zero => intro i h; exact ev_step (fun _ => rfl) (ev_neg (by omega) (ev_now rfl))
  | succ d ih =>
    intro i h
    refine ev_step (fun _ => rfl) (ev_pos (by omega) (ev_pos (by omega) (ev_pos (by omega) (ev_some (eqItem _) (ev_pos rfl ?_)))))
    have e : wrap64 ((i : Int) + 1) = ((i + 1 : Nat) : Int) := by rw [w64 (by omega) (by omega)]; omega
    rw [e]
    exact ih (i + 1) (by omega)
theorem eqItemS (l : List S_Item) (hn : l.length ≤ 1048576) : Ev (fun k => laws_eqItemS.f k l l) true := ev_pos rfl (eqItemS_l0 l hn l.length 0 (by omega))
theorem eqRow (a b : Int) (l : List S_Item) (hn : l.length ≤ 1048576) : Ev (fun k => laws_eqRow.f k a b l a b l) true := ev_pos rfl (ev_pos rfl (ev_bind (eqItemS l hn) (ev_pos rfl (ev_now rfl))))
/-- what is known of an item's texts that came in -/
def okL (x : S_LItem) : Prop := x.f1.size ≤ maxLen ∧ x.f2.size ≤ maxLen
theorem szItem (x : S_LItem) (a : Int) (hx : okL x) (h0 : 0 ≤ a) (h1 : a ≤ 1048576) : ∃ r, laws_szItem.f x.f0 x.f1 x.f2 x.f3 x.f4 a = some r ∧ r ≤ 1048576 := by
  unfold okL maxLen at hx
  have e : wrap64 (a - (x.f1.size : Int)) = a - (x.f1.size : Int) := w64 (by omega) (by omega)
  unfold laws_szItem.f
  rw [e]
  split
  · exact ⟨_, rfl, by omega⟩
  · have e2 : wrap64 (a - (x.f1.size : Int) - (x.f2.size : Int)) = a - (x.f1.size : Int) - (x.f2.size : Int) := w64 (by omega) (by omega)
    rw [e2]
    split
    · exact ⟨_, rfl, by omega⟩
    · exact ⟨_, rfl, by omega⟩
theorem szItemS_l0 (l : List S_LItem) (hl : ∀ x ∈ l, okL x) (hn : l.length ≤ 1048576) : ∀ (d i : Nat) (a : Int), i + d = l.length → 0 ≤ a → a ≤ 1048576 → ∃ r, r ≤ 1048576 ∧ Ev (fun k => laws_szItemS.l0 k l a (i : Int)) r := by
  intro d
  induction d with
  | zero => intro i a h h0 h1; exact ⟨a, h1, ev_step (fun _ => rfl) (ev_neg (by omega) (ev_now rfl))⟩
  | succ d ih =>
    intro i a h h0 h1
    have hm : rd_LItem l (i : Int) ∈ l := by rw [rdL l i (by omega)]; exact List.getElem_mem _
    obtain ⟨r, hr, hr1⟩ := szItem _ a (hl _ hm) h0 h1
    have e : wrap64 ((i : Int) + 1) = ((i + 1 : Nat) : Int) := by rw [w64 (by omega) (by omega)]; omega
    by_cases hneg : r < 0
    · exact ⟨-1, by omega, ev_step (fun _ => rfl) (ev_pos (by omega) (ev_pos (by omega) (ev_some hr (ev_pos hneg (ev_now rfl)))))⟩
    · obtain ⟨q, hq, hq2⟩ := ih (i + 1) r (by omega) (by omega) hr1
      refine ⟨q, hq, ev_step (fun _ => rfl) (ev_pos (by omega) (ev_pos (by omega) (ev_some hr (ev_neg hneg ?_))))⟩
      rw [e]
      exact hq2
theorem szRow (a b : Int) (l : List S_LItem) (hl : l.length ≤ maxLen) (hx : ∀ x ∈ l, okL x) : ∃ r, Ev (fun k => laws_szRow.f k a b l 1048576) r ∧ (0 ≤ r → l.length ≤ 1048576) := by
  unfold maxLen at hl
  have e : wrap64 (1048576 - (l.length : Int)) = 1048576 - (l.length : Int) := w64 (by omega) (by omega)
  by_cases h : 1048576 - (l.length : Int) < 0
  · refine ⟨-1, ev_bind (a := -1) ?_ (ev_pos (by omega) (ev_now rfl)), fun q => absurd q (by omega)⟩
    exact ev_pos (by rw [e]; exact h) (ev_now rfl)
  · obtain ⟨r, hr1, hr⟩ := szItemS_l0 l hx (by omega) l.length 0 (1048576 - (l.length : Int)) (by omega) (by omega) (by omega)
    refine ⟨if r < 0 then -1 else r, ev_bind (a := r) ?_ (ev_ite (fun q => ev_now (by rw [if_pos q])) (fun q => ev_now (by rw [if_neg q]))), fun _ => by omega⟩
    refine ev_neg (by rw [e]; exact h) ?_
    rw [e]
    exact hr
end Go.Proofs.Ytgkeapbeogmfjaa.L
