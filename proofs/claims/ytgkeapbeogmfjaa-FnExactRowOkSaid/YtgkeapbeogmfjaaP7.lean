/- FnExactRowOk as a plain statement: proved for all arguments. -/
import Derived.Test.YtgkeapbeogmfjaaL5
import Derived.Test.YtgkeapbeogmfjaaL11
import Derived.Test.YtgkeapbeogmfjaaRd
import Derived.Test.YtgkeapbeogmfjaaQ0
import Derived.Test.YtgkeapbeogmfjaaQ49
namespace Go.Proofs.Ytgkeapbeogmfjaa.Pure
open Go.RowKit Go.Proofs.YtgkeapbeogmfjaaW.PrintWords Go.Proofs.YtgkeapbeogmfjaaW.PrintLast Go.Proofs.YtgkeapbeogmfjaaW.PrintMore Go.Proofs.Ytgkeapbeogmfjaa.Q Go.Proofs.Ytgkeapbeogmfjaa.L Go.Proofs.Ytgkeapbeogmfjaa.R

theorem okI_items (l : List S_LItem) (hl : ∀ y ∈ l, WF_LItem y) : ∀ x ∈ items l, okI x := by
  intro x hx
  obtain ⟨y, hy, rfl⟩ := List.mem_map.1 hx
  have := hl y hy
  have h1 := this.2.1
  have h2 := this.2.2.1
  unfold maxLen at h1 h2
  exact ⟨by show y.f1.size ≤ _; omega, by show y.f2.size ≤ _; omega⟩
theorem FnExactRowOk (a b : Int) (l : List S_LItem) (_ : (Lit.int .i64 a).wf = true) (_ : (Lit.int .i64 b).wf = true) (hl : l.length ≤ maxLen ∧ ∀ y ∈ l, WF_LItem y) : ∃ k, laws_FnExactRowOk.f k a b l = some true := by
  refine Ev.rounds (g := fun k => laws_FnExactRowOk.f k a b l) ?_
  obtain ⟨r, hr, hs⟩ := szRow a b l hl.1 (fun x hx => ⟨(hl.2 x hx).2.1, (hl.2 x hx).2.2.1⟩)
  refine ev_bind hr (ev_ite (fun _ => ev_now rfl) (fun h => ?_))
  have hn := hs (by omega)
  have hi : (items l).length ≤ 1048576 := by rw [items_len]; exact hn
  have ho := okI_items l hl.2
  refine ev_step (fun _ => by rw [laws_FnExactRowOk.j0]) ?_
  refine ev_bind (toRow a b l hn) (ev_bind (specRowOk a b (items l) ho hi) (ev_bind (toRow a b l hn) (ev_bind (implRowOk a b (items l) ho hi) (ev_neg (by simp) ?_))))
  refine ev_step (fun _ => by rw [laws_FnExactRowOk.j1]) ?_
  exact ev_bind (toRow a b l hn) (ev_bind (eqRow a b (items l) hi) (ev_pos rfl (ev_now rfl)))
end Go.Proofs.Ytgkeapbeogmfjaa.Pure
