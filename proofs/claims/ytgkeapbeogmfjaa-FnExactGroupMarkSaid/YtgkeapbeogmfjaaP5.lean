/- FnExactGroupMark as a plain statement: proved for all arguments. -/
import Derived.Test.YtgkeapbeogmfjaaL3
import Derived.Test.YtgkeapbeogmfjaaL4
import Derived.Test.YtgkeapbeogmfjaaL8
import Derived.Test.YtgkeapbeogmfjaaQ0
import Derived.Test.YtgkeapbeogmfjaaQ22
import Derived.Test.YtgkeapbeogmfjaaQ23
namespace Go.Proofs.Ytgkeapbeogmfjaa.Pure
open Go.RowKit Go.Proofs.YtgkeapbeogmfjaaW.PrintWords Go.Proofs.YtgkeapbeogmfjaaW.PrintLast Go.Proofs.YtgkeapbeogmfjaaW.PrintMore Go.Proofs.Ytgkeapbeogmfjaa.Q Go.Proofs.Ytgkeapbeogmfjaa.L

theorem FnExactGroupMark (g : Int) (m b o : List Int) (who gen row off : Int) (_ : (Lit.int .i64 g).wf = true) (hm : m.length ≤ maxLen ∧ ∀ y ∈ m, (Lit.int .i64 y).wf = true) (hb : b.length ≤ maxLen ∧ ∀ y ∈ b, (Lit.int .i64 y).wf = true) (ho : o.length ≤ maxLen ∧ ∀ y ∈ o, (Lit.int .i64 y).wf = true) (_ : (Lit.int .i64 who).wf = true) (_ : (Lit.int .i64 gen).wf = true) (_ : (Lit.int .i64 row).wf = true) (_ : (Lit.int .i64 off).wf = true) :
    ∃ k, laws_FnExactGroupMark.f k g m b o who gen row off = some true := by
  refine Ev.rounds (g := fun k => laws_FnExactGroupMark.f k g m b o who gen row off) ?_
  obtain ⟨r, hr, hs⟩ := szGroup g m b o hm.1 hb.1 ho.1
  refine ev_some hr (ev_ite (fun _ => ev_now rfl) (fun h => ?_))
  obtain ⟨h1, h2, h3⟩ := hs (by omega)
  obtain ⟨o', ok, hl, _, _, e1, e2⟩ := groupMark g m b o who gen row off h1 h2 h3
  have h3' : o'.length ≤ 1048576 := by omega
  have hmk : Ev (fun k => laws_markGroup.f k g m b o' 1) _ := markGroup 1 g m b o' (by omega) h1 h2 h3'
  have hhd : Ev (fun k => laws_heldGroup.f k g (upFrom 1 m.length) (upFrom (1 + m.length) b.length) (upFrom (1 + m.length + b.length) o'.length) 1) _ := heldGroup 1 g m.length b.length o'.length (by omega) h1 h2 h3'
  have hmx : Ev (fun k => laws_markGroup.f k g m b o 1) _ := markGroup 1 g m b o (by omega) h1 h2 h3
  refine ev_bind (toGroup g m b o h1 h2 h3) (ev_bind e1 (ev_bind (toGroup g m b o h1 h2 h3) (ev_bind e2 (ev_bind (eqGroup g m b o' h1 h2 h3') (ev_pos rfl ?_)))))
  refine ev_step (fun _ => by rw [laws_FnExactGroupMark.j0]) ?_
  refine ev_neg (by simp) (ev_bind (toGroup g m b o h1 h2 h3) (ev_bind (eqGroup g m b o h1 h2 h3) (ev_pos rfl (ev_bind hmx (ev_neg (by omega) (ev_bind (eqGroup g m b o' h1 h2 h3') (ev_pos rfl ?_)))))))
  refine ev_step (fun _ => by rw [laws_FnExactGroupMark.j1]) ?_
  refine ev_neg (by simp) (ev_bind hmk (ev_bind hhd (ev_neg (by omega) (ev_pos rfl (ev_bind (toGroup g m b o h1 h2 h3) (ev_bind e2 (ev_bind (eqGroup g m b o' h1 h2 h3') (ev_pos rfl ?_))))))))
  refine ev_step (fun _ => by rw [laws_FnExactGroupMark.j2]) ?_
  exact ev_neg (by simp) (ev_bind hhd (ev_neg (by omega) (ev_pos rfl (ev_now rfl))))
end Go.Proofs.Ytgkeapbeogmfjaa.Pure
