/- FnExactRowGet and FnExactLatest as plain statements: proved for all arguments. -/
import Derived.Test.YtgkeapbeogmfjaaL5
import Derived.Test.YtgkeapbeogmfjaaL6
import Derived.Test.YtgkeapbeogmfjaaL7
import Derived.Test.YtgkeapbeogmfjaaRd
import Derived.Test.YtgkeapbeogmfjaaQ0
import Derived.Test.YtgkeapbeogmfjaaQ27
import Derived.Test.YtgkeapbeogmfjaaQ29
import Derived.Test.YtgkeapbeogmfjaaQ45
namespace Go.Proofs.Ytgkeapbeogmfjaa.Pure
open Go.RowKit Go.Proofs.YtgkeapbeogmfjaaW.PrintWords Go.Proofs.YtgkeapbeogmfjaaW.PrintLast Go.Proofs.YtgkeapbeogmfjaaW.PrintMore Go.Proofs.Ytgkeapbeogmfjaa.Q Go.Proofs.Ytgkeapbeogmfjaa.L Go.Proofs.Ytgkeapbeogmfjaa.R

theorem okL_of (x : S_LItem) (h : WF_LItem x) : okL x := ⟨h.2.1, h.2.2.1⟩
theorem FnExactRowGet (a b : Int) (l : List S_LItem) (off : Int) (_ : (Lit.int .i64 a).wf = true) (_ : (Lit.int .i64 b).wf = true) (hl : l.length ≤ maxLen ∧ ∀ y ∈ l, WF_LItem y) (_ : (Lit.int .i64 off).wf = true) : ∃ k, laws_FnExactRowGet.f k a b l off = some true := by
  refine Ev.rounds (g := fun k => laws_FnExactRowGet.f k a b l off) ?_
  obtain ⟨r, hr, hs⟩ := szRow a b l hl.1 (fun x hx => okL_of x (hl.2 x hx))
  refine ev_bind hr (ev_ite (fun _ => ev_now rfl) (fun h => ?_))
  have hn := hs (by omega)
  have hi : (items l).length ≤ 1048576 := by rw [items_len]; exact hn
  refine ev_bind (toRow a b l hn) (ev_bind (specRowGet a b off (items l) hi) (ev_bind (toRow a b l hn) (ev_bind (implRowGet a b off (items l) hi) ?_)))
  have he : laws_eqItem.f (rowGet a off (items l)).1 (rowGet a off (items l)).2.1 (rowGet a off (items l)).2.2.1 (rowGet a off (items l)).2.2.2.1 (rowGet a off (items l)).2.2.2.2.1 (rowGet a off (items l)).1 (rowGet a off (items l)).2.1 (rowGet a off (items l)).2.2.1 (rowGet a off (items l)).2.2.2.1 (rowGet a off (items l)).2.2.2.2.1 = some true := by simp [laws_eqItem.f]
  refine ev_some he (ev_pos rfl ?_)
  refine ev_step (fun _ => rfl) (ev_neg (by simp) ?_)
  exact ev_bind (toRow a b l hn) (ev_bind (eqRow a b (items l) hi) (ev_pos rfl (ev_now rfl)))
theorem FnExactLatest (a b : Int) (l : List S_LItem) (key : ByteArray) (_ : (Lit.int .i64 a).wf = true) (_ : (Lit.int .i64 b).wf = true) (hl : l.length ≤ maxLen ∧ ∀ y ∈ l, WF_LItem y) (_ : key.size ≤ maxLen) : ∃ k, laws_FnExactLatest.f k a b l key = some true := by
  refine Ev.rounds (g := fun k => laws_FnExactLatest.f k a b l key) ?_
  refine ev_ite (fun _ => ev_now rfl) (fun _ => ?_)
  obtain ⟨r, hr, hs⟩ := szRow a b l hl.1 (fun x hx => okL_of x (hl.2 x hx))
  refine ev_bind hr (ev_ite (fun _ => ev_now rfl) (fun h => ?_))
  have hn := hs (by omega)
  have hi : (items l).length ≤ 1048576 := by rw [items_len]; exact hn
  refine ev_bind (toRow a b l hn) (ev_bind (specLatest a b (items l) key hi) (ev_bind (toRow a b l hn) (ev_bind (implLatest a b (items l) key hi) ?_)))
  generalize last (lastOf key (items l)) = v
  have he : laws_eqItem.f v.1 v.2.1 v.2.2.1 v.2.2.2.1 v.2.2.2.2.1 v.1 v.2.1 v.2.2.1 v.2.2.2.1 v.2.2.2.2.1 = some true := by simp [laws_eqItem.f]
  refine ev_some he (ev_pos rfl ?_)
  refine ev_step (fun _ => rfl) (ev_neg (by simp) ?_)
  exact ev_bind (toRow a b l hn) (ev_bind (eqRow a b (items l) hi) (ev_pos rfl (ev_now rfl)))
end Go.Proofs.Ytgkeapbeogmfjaa.Pure
