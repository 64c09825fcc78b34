/- FnExactPutNum, FnExactGetNum and FnExactGetText as plain statements: proved for all arguments. -/
import Derived.Test.YthkepjgolaichaaL1
import Derived.Test.YthkepjgolaichaaQ0
import Derived.Test.YthkepjgolaichaaQ10
import Derived.Test.YthkepjgolaichaaQ11
import Derived.Test.YthkepjgolaichaaQ20
namespace Go.Proofs.Ythkepjgolaichaa.Pure
open Go.RowKit Go.Proofs.YthkepjgolaichaaW.PrintWords Go.Proofs.YthkepjgolaichaaW.PrintLast Go.Proofs.YthkepjgolaichaaW.PrintMore Go.Proofs.Ythkepjgolaichaa.Q Go.Proofs.Ythkepjgolaichaa.L

theorem FnExactPutNum (x : Int) (_ : (Lit.int .i64 x).wf = true) : ∃ k, laws_FnExactPutNum.f k x = some true := by
  have hl := put_len x
  refine Ev.rounds (g := fun k => laws_FnExactPutNum.f k x) ?_
  refine ev_bind (specPut x) (ev_bind (implPut x) (ev_bind (eqByteS _ (by omega)) (ev_pos rfl ?_)))
  refine ev_step (fun _ => rfl) (ev_bind (markByteS _ (by omega)) (ev_bind (heldByteS _ (by omega)) (ev_neg (by omega) ?_)))
  refine ev_step (fun _ => rfl) (ev_pos rfl ?_)
  refine ev_step (fun _ => rfl) (ev_bind (implPut x) (ev_bind (eqByteS _ (by omega)) (ev_pos rfl ?_)))
  exact ev_step (fun _ => rfl) (ev_bind (heldByteS _ (by omega)) (ev_neg (by omega) (ev_pos rfl (ev_now rfl))))
theorem FnExactGetNum (l : List Int) (a : Int) (hl : l.length ≤ maxLen ∧ ∀ y ∈ l, (Lit.int .u8 y).wf = true) (ha : (Lit.int .i64 a).wf = true) : ∃ k, laws_FnExactGetNum.f k l a = some true := by
  refine Ev.rounds (g := fun k => laws_FnExactGetNum.f k l a) ?_
  refine ev_ite (fun _ => ev_now rfl) (fun h => ?_)
  have hb : ∀ x ∈ l, 0 ≤ x ∧ x ≤ 255 := fun x hx => wf_u8 (hl.2 x hx)
  have ha := wf_i64 ha
  refine ev_bind (toByteS l (by omega)) (ev_bind (specGet l hb (by omega) a ha.2) (ev_bind (toByteS l (by omega)) (ev_bind (implGet l hb (by omega) a ha.2) (ev_pos rfl (ev_pos rfl ?_)))))
  exact ev_step (fun _ => rfl) (ev_neg (by simp) (ev_bind (toByteS l (by omega)) (ev_bind (eqByteS l (by omega)) (ev_pos rfl (ev_now rfl)))))
theorem FnExactGetText (l : List Int) (a : Int) (hl : l.length ≤ maxLen ∧ ∀ y ∈ l, (Lit.int .u8 y).wf = true) (ha : (Lit.int .i64 a).wf = true) : ∃ k, laws_FnExactGetText.f k l a = some true := by
  refine Ev.rounds (g := fun k => laws_FnExactGetText.f k l a) ?_
  refine ev_ite (fun _ => ev_now rfl) (fun h => ?_)
  have hb : ∀ x ∈ l, 0 ≤ x ∧ x ≤ 255 := fun x hx => wf_u8 (hl.2 x hx)
  have ha := wf_i64 ha
  refine ev_bind (toByteS l (by omega)) (ev_bind (specText l hb (by omega) a ha.2) (ev_bind (toByteS l (by omega)) (ev_bind (implText l hb (by omega) a ha.2) (ev_pos rfl (ev_pos rfl ?_)))))
  exact ev_step (fun _ => rfl) (ev_neg (by simp) (ev_bind (toByteS l (by omega)) (ev_bind (eqByteS l (by omega)) (ev_pos rfl (ev_now rfl)))))
end Go.Proofs.Ythkepjgolaichaa.Pure
