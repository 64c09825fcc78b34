/- The plain side of RowOk: program and reference come to one answer. Condition: lists of at most 2^20 elements, texts as they are read. -/
import Derived.Test.YtgkeapbeogmfjaaL0
import Derived.Test.YtgkeapbeogmfjaaL2a
import Derived.Test.YtgkeapbeogmfjaaL2w
import Derived.Test.YtgkeapbeogmfjaaL5
import Derived.Test.YtgkeapbeogmfjaaQ0
import Derived.Test.YtgkeapbeogmfjaaQ10
import Derived.Test.YtgkeapbeogmfjaaQ3
import Derived.Test.YtgkeapbeogmfjaaQ46
import Derived.Test.YtgkeapbeogmfjaaQ47
import Derived.Test.YtgkeapbeogmfjaaQ48
namespace Go.Proofs.Ytgkeapbeogmfjaa.L
open Go.RowKit Go.Proofs.YtgkeapbeogmfjaaW.PrintWords Go.Proofs.YtgkeapbeogmfjaaW.PrintLast Go.Proofs.YtgkeapbeogmfjaaW.PrintMore Go.Proofs.Ytgkeapbeogmfjaa.Q

/-- what is known of an item's texts -/
def okI (x : S_Item) : Prop := x.f1.size ≤ 9223372036854775807 ∧ x.f2.size ≤ 9223372036854775807
/-- is an item right by itself -/
def itemOk (x : S_Item) : Bool := words x.f1 && (words x.f2 && (inb x.f3 0 3 && inb x.f4 0 100000))
/-- is the item at i right in its row -/
def okAt (a b : Int) (l : List S_Item) (i : Nat) : Bool :=
  itemOk (rd_Item l (i : Int)) && (inb (rd_Item l (i : Int)).f0 a (wrap64 (b - 1)) && !(decide (0 < i) && decide ((rd_Item l ((i : Int) - 1)).f0 ≥ (rd_Item l (i : Int)).f0)))
def allAt (a b : Int) (l : List S_Item) : Nat → Nat → Bool
  | 0, _ => true
  | d + 1, i => okAt a b l i && allAt a b l d (i + 1)
/-- is a row right, its items left out -/
def rowHead (a b : Int) (l : List S_Item) : Bool := inb a 0 b && (decide (b ≤ 100000) && decide ((l.length : Int) ≤ 80))
def rowOk (a b : Int) (l : List S_Item) : Bool := allAt a b l l.length 0 && rowHead a b l
theorem specItemOk (x : S_Item) (hx : okI x) : Ev (fun k => spec_l3Item.f k x.f0 x.f1 x.f2 x.f3 x.f4) (itemOk x) :=
  ev_bind (specWords _ hx.1) (ev_and fun _ => ev_bind (specWords _ hx.2) (ev_and fun _ => ev_some (specIn _ _ _) (ev_and fun _ => ev_some (specIn _ _ _) (ev_now rfl))))
theorem specHead (a b : Int) (l : List S_Item) : Ev (fun k => spec_RowOk.j3 k a b l) (rowHead a b l) := by
  refine ev_step (fun _ => by rw [spec_RowOk.j3]) (ev_some (specIn _ _ _) (ev_and fun _ => ?_))
  by_cases h : b ≤ 100000
  · exact ev_pos h (ev_now (by simp [h]))
  · exact ev_neg h (ev_now (by simp [h]))
theorem specRow_l0 (a b : Int) (l : List S_Item) (hl : ∀ x ∈ l, okI x) (hn : l.length ≤ 1048576) : ∀ (d i : Nat), i + d = l.length → Ev (fun k => spec_RowOk.l0 k (i : Int) a b l) (allAt a b l d i && rowHead a b l) := by
  intro d
  induction d with
  | zero => intro i h; exact ev_step (fun _ => by rw [spec_RowOk.l0]) (ev_neg (by omega) (by simpa [allAt] using specHead a b l))
  | succ d ih =>
    intro i h
    have hm : okI (rd_Item l (i : Int)) := by rw [rdI l i (by omega)]; exact hl _ (List.getElem_mem _)
    have e : wrap64 ((i : Int) + 1) = ((i + 1 : Nat) : Int) := by rw [w64 (by omega) (by omega)]; omega
    have stop : ∀ c : Bool, c = true → okAt a b l i = false → Ev (fun k => spec_RowOk.j2 k (i : Int) c a b l) (allAt a b l (d + 1) i && rowHead a b l) := fun c hc q => ev_step (fun _ => by rw [spec_RowOk.j2]) (ev_pos hc (ev_now (by simp [allAt, q])))
    have cont : ∀ c : Bool, c = false → okAt a b l i = true → Ev (fun k => spec_RowOk.j2 k (i : Int) c a b l) (allAt a b l (d + 1) i && rowHead a b l) := fun c hc q => ev_step (fun _ => by rw [spec_RowOk.j2]) (ev_neg (by simp [hc]) (by rw [e]; simpa [allAt, q] using ih (i + 1) (by omega)))
    have hw : 0 < i → wrap64 ((i : Int) - 1) = (i : Int) - 1 := fun q => w64 (by omega) (by omega)
    refine ev_step (fun _ => by rw [spec_RowOk.l0]) (ev_pos (by omega) ?_)
    refine ev_step (fun _ => by rw [spec_RowOk.j1]) (ev_pos (by omega) (ev_pos (by omega) (ev_bind (specItemOk _ hm) ?_)))
    by_cases h1 : itemOk (rd_Item l (i : Int)) = true
    · refine ev_pos h1 (ev_some (specIn _ _ _) ?_)
      by_cases h2 : inb (rd_Item l (i : Int)).f0 a (wrap64 (b - 1)) = true
      · refine ev_pos h2 ?_
        by_cases h3 : 0 < i
        · refine ev_pos (by omega) ?_
          rw [hw h3]
          refine ev_pos (by omega) (ev_pos (by omega) ?_)
          by_cases h4 : (rd_Item l ((i : Int) - 1)).f0 ≥ (rd_Item l (i : Int)).f0
          · exact stop _ (by simpa using h4) (by simp [okAt, h3]; intro _ _; simpa using h4)
          · exact cont _ (by simpa using h4) (by simp [okAt, h1, h2]; exact Or.inr (by omega))
        · exact ev_neg (by omega) (cont _ rfl (by simp [okAt, h1, h2]; exact Or.inl (by omega)))
      · exact ev_neg h2 (stop _ rfl (by simp [okAt, h2]))
    · exact ev_neg h1 (stop _ rfl (by simp [okAt, h1]))
theorem specRowOk (a b : Int) (l : List S_Item) (hl : ∀ x ∈ l, okI x) (hn : l.length ≤ 1048576) : Ev (fun k => spec_RowOk.f k a b l) (rowOk a b l) := specRow_l0 a b l hl hn l.length 0 (by omega)
theorem implRow_l0 (a b : Int) (l : List S_Item) (hl : ∀ x ∈ l, okI x) (hn : l.length ≤ 1048576) : ∀ (d i : Nat), i + d = l.length → Ev (fun k => impl_RowOk.l0 k l (l.length : Int) (i : Int) a b l) (allAt a b l d i) := by
  intro d
  induction d with
  | zero =>
    intro i h
    refine ev_step (fun _ => by rw [impl_RowOk.l0]) ?_
    exact ev_neg (by omega) (ev_now rfl)
  | succ d ih =>
    intro i h
    have hm : okI (rd_Item l (i : Int)) := by rw [rdI l i (by omega)]; exact hl _ (List.getElem_mem _)
    have e : wrap64 ((i : Int) + 1) = ((i + 1 : Nat) : Int) := by rw [w64 (by omega) (by omega)]; omega
    have stop : ∀ c : Bool, c = true → okAt a b l i = false → Ev (fun k => impl_RowOk.j4 k l (l.length : Int) (i : Int) c a b l) (allAt a b l (d + 1) i) := fun c hc q => ev_step (fun _ => by rw [impl_RowOk.j4]) (ev_pos hc (ev_now (by simp [allAt, q])))
    have cont : ∀ c : Bool, c = false → okAt a b l i = true → Ev (fun k => impl_RowOk.j4 k l (l.length : Int) (i : Int) c a b l) (allAt a b l (d + 1) i) := fun c hc q => ev_step (fun _ => by rw [impl_RowOk.j4]) (ev_neg (by simp [hc]) (by rw [e]; simpa [allAt, q] using ih (i + 1) (by omega)))
    have hw : 0 < i → wrap64 ((i : Int) - 1) = (i : Int) - 1 := fun q => w64 (by omega) (by omega)
    refine ev_step (fun _ => by rw [impl_RowOk.l0]) (ev_pos (by omega) ?_)
    refine ev_step (fun _ => by rw [impl_RowOk.j3]) (ev_pos (by omega) (ev_pos (by omega) (ev_some (implIn _ _ _) ?_)))
    have hpre : inb (rd_Item l (i : Int)).f0 a (wrap64 (b - 1)) = true → (0 < i → ¬ (rd_Item l ((i : Int) - 1)).f0 ≥ (rd_Item l (i : Int)).f0) → okAt a b l i = itemOk (rd_Item l (i : Int)) := fun h2 h3 => by
      have : (!(decide (0 < i) && decide ((rd_Item l ((i : Int) - 1)).f0 ≥ (rd_Item l (i : Int)).f0))) = true := by
        by_cases q : 0 < i
        · simp [q]; simpa using h3 q
        · simp [q]
      rw [okAt, h2, this]
      simp
    by_cases h2 : inb (rd_Item l (i : Int)).f0 a (wrap64 (b - 1)) = true
    · refine ev_pos h2 ?_
      have body : okAt a b l i = itemOk (rd_Item l (i : Int)) → Ev (fun k => (impl_wordsOk.f k ((rd_Item l (i : Int)).f1)).bind fun t1 => if t1 = true then ((impl_wordsOk.f k ((rd_Item l (i : Int)).f2)).bind fun t2 => if t2 = true then ((impl_within.f ((rd_Item l (i : Int)).f3) 0 3).bind fun t3 => if t3 = true then ((impl_within.f ((rd_Item l (i : Int)).f4) 0 100000).bind fun t4 => impl_RowOk.j4 k l (l.length : Int) (i : Int) (!t4) a b l) else impl_RowOk.j4 k l (l.length : Int) (i : Int) true a b l) else impl_RowOk.j4 k l (l.length : Int) (i : Int) true a b l) else impl_RowOk.j4 k l (l.length : Int) (i : Int) true a b l) (allAt a b l (d + 1) i) := fun hq => by
        refine ev_bind (implWords _ hm.1) ?_
        by_cases k1 : words (rd_Item l (i : Int)).f1 = true
        · refine ev_pos k1 (ev_bind (implWords _ hm.2) ?_)
          by_cases k2 : words (rd_Item l (i : Int)).f2 = true
          · refine ev_pos k2 (ev_some (implIn _ _ _) ?_)
            by_cases k3 : inb (rd_Item l (i : Int)).f3 0 3 = true
            · refine ev_pos k3 (ev_some (implIn _ _ _) ?_)
              by_cases k4 : inb (rd_Item l (i : Int)).f4 0 100000 = true
              · exact cont _ (by simp [k4]) (by rw [hq]; simp [itemOk, k1, k2, k3, k4])
              · exact stop _ (by simp [k4]) (by rw [hq]; simp [itemOk, k4])
            · exact ev_neg k3 (stop _ rfl (by rw [hq]; simp [itemOk, k3]))
          · exact ev_neg k2 (stop _ rfl (by rw [hq]; simp [itemOk, k2]))
        · exact ev_neg k1 (stop _ rfl (by rw [hq]; simp [itemOk, k1]))
      by_cases h3 : 0 < i
      · refine ev_pos (by omega) ?_
        rw [hw h3]
        refine ev_pos (by omega) (ev_pos (by omega) ?_)
        by_cases h4 : (rd_Item l ((i : Int) - 1)).f0 ≥ (rd_Item l (i : Int)).f0
        · exact ev_pos h4 (stop _ rfl (by simp [okAt, h3]; intro _ _; simpa using h4))
        · exact ev_neg h4 (body (hpre h2 fun _ => h4))
      · exact ev_neg (by omega) (body (hpre h2 fun q => absurd q h3))
    · exact ev_neg h2 (stop _ rfl (by simp [okAt, h2]))
theorem implRowOk (a b : Int) (l : List S_Item) (hl : ∀ x ∈ l, okI x) (hn : l.length ≤ 1048576) : Ev (fun k => impl_RowOk.f k a b l) (rowOk a b l) := by
  have go : ∀ c : Bool, Ev (fun k => impl_RowOk.j0 k c a b l) (!c && allAt a b l l.length 0) := fun c => by
    refine ev_step (fun _ => by rw [impl_RowOk.j0]) ?_
    cases c with
    | true => exact ev_pos rfl (ev_now rfl)
    | false =>
      refine ev_neg (by simp) (ev_step (fun _ => by rw [impl_RowOk.j1]) ?_)
      simpa using implRow_l0 a b l hl hn l.length 0 (by omega)
  refine ev_some (implIn _ _ _) ?_
  by_cases h1 : inb a 0 b = true
  · refine ev_pos h1 ?_
    by_cases h2 : b > 100000
    · exact ev_pos h2 (ev_eq (by simp [rowOk, rowHead, show ¬ b ≤ 100000 by omega]) (go true))
    · refine ev_neg h2 (ev_eq ?_ (go _))
      by_cases h3 : (l.length : Int) > 80
      · simp [rowOk, rowHead, show ¬ ((l.length : Int) ≤ 80) by omega, show (80 : Int) < (l.length : Int) by omega]
      · simp [rowOk, rowHead, h1, show b ≤ 100000 by omega, show (l.length : Int) ≤ 80 by omega, show ¬ ((80 : Int) < (l.length : Int)) by omega]
  · exact ev_neg h1 (ev_eq (by simp [rowOk, rowHead, h1]) (go true))
end Go.Proofs.Ytgkeapbeogmfjaa.L
