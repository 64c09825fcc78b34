/- FnExactMakerAsk as a plain statement: proved for all arguments. -/
import Derived.Test.YtgkeapbeogmfjaaL10
import Derived.Test.YtgkeapbeogmfjaaRd
import Derived.Test.YtgkeapbeogmfjaaQ0
import Derived.Test.YtgkeapbeogmfjaaQ36
namespace Go.Proofs.Ytgkeapbeogmfjaa.Pure
open Go.RowKit Go.Proofs.YtgkeapbeogmfjaaW.PrintWords Go.Proofs.YtgkeapbeogmfjaaW.PrintLast Go.Proofs.YtgkeapbeogmfjaaW.PrintMore Go.Proofs.Ytgkeapbeogmfjaa.Q Go.Proofs.Ytgkeapbeogmfjaa.L Go.Proofs.Ytgkeapbeogmfjaa.R

theorem FnExactMakerAsk (a b c d : Int) (l : List S_LMark) (e q : Int) (_ : (Lit.int .i64 a).wf = true) (_ : (Lit.int .i64 b).wf = true) (_ : (Lit.int .i64 c).wf = true) (_ : (Lit.int .i64 d).wf = true) (hl : l.length ≤ maxLen ∧ ∀ y ∈ l, WF_LMark y) (_ : (Lit.int .i64 e).wf = true) (_ : (Lit.int .i64 q).wf = true) : ∃ k, laws_FnExactMakerAsk.f k a b c d l e q = some true := by
  refine Ev.rounds (g := fun k => laws_FnExactMakerAsk.f k a b c d l e q) ?_
  obtain ⟨r, hr, hs⟩ := szMaker a b c d l hl.1
  refine ev_some hr (ev_ite (fun _ => ev_now rfl) (fun h => ?_))
  have hn := hs (by omega)
  have hi : (marks l).length ≤ 1048576 := by rw [marks_len]; exact hn
  refine ev_bind (toMaker a b c d l hn) (ev_bind (specMakerAsk a b c d e q (marks l) hi) (ev_bind (toMaker a b c d l hn) (ev_bind (implMakerAsk a b c d e q (marks l) hi) (ev_pos rfl ?_))))
  refine ev_step (fun _ => rfl) (ev_neg (by simp) ?_)
  exact ev_bind (toMaker a b c d l hn) (ev_bind (eqMaker a b c d (marks l) hi) (ev_pos rfl (ev_now rfl)))
end Go.Proofs.Ytgkeapbeogmfjaa.Pure
