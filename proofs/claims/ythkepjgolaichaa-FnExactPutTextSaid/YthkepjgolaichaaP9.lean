/- FnExactPutText as a plain statement: proved for all arguments. -/
import Derived.Test.YthkepjgolaichaaL1
import Derived.Test.YthkepjgolaichaaQ0
import Derived.Test.YthkepjgolaichaaQ20
import Derived.Test.YthkepjgolaichaaQ37
namespace Go.Proofs.Ythkepjgolaichaa.Pure
open Go.RowKit Go.Proofs.YthkepjgolaichaaW.PrintWords Go.Proofs.YthkepjgolaichaaW.PrintLast Go.Proofs.YthkepjgolaichaaW.PrintMore Go.Proofs.Ythkepjgolaichaa.Q Go.Proofs.Ythkepjgolaichaa.L

theorem specPutText (s : ByteArray) (hs : s.size ≤ 1048576) : Ev (fun k => spec_PutText.f k s) (put (s.size : Int) ++ bytesOf s) := by
  have := put_len (s.size : Int)
  exact ev_bind (specPut _) (ev_pos (by omega) (ev_now rfl))
theorem implPutText (s : ByteArray) (hs : s.size ≤ 1048576) : Ev (fun k => impl_PutText.f k s) (put (s.size : Int) ++ bytesOf s) := by
  have := put_len (s.size : Int)
  exact ev_bind (implPut _) (ev_pos (by omega) (ev_now rfl))
theorem FnExactPutText (s : ByteArray) (_ : s.size ≤ maxLen) : ∃ k, laws_FnExactPutText.f k s = some true := by
  refine Ev.rounds (g := fun k => laws_FnExactPutText.f k s) ?_
  refine ev_ite (fun _ => ev_now rfl) (fun h => ?_)
  have h1 := specPutText s (by omega)
  have h2 := implPutText s (by omega)
  have hl : (put (s.size : Int) ++ bytesOf s).length ≤ 2097152 := by
    have := put_len (s.size : Int)
    rw [List.length_append, bytesOf_length]
    omega
  generalize put (s.size : Int) ++ bytesOf s = l at h1 h2 hl
  refine ev_step (fun _ => by rw [laws_FnExactPutText.j0]) ?_
  refine ev_bind h1 (ev_bind h2 (ev_bind (eqByteS _ (by omega)) (ev_pos rfl ?_)))
  refine ev_step (fun _ => by rw [laws_FnExactPutText.j1]) ?_
  refine ev_bind (markByteS _ (by omega)) (ev_bind (heldByteS _ (by omega)) (ev_neg (by omega) ?_))
  refine ev_step (fun _ => by rw [laws_FnExactPutText.j2]) ?_
  refine ev_pos rfl ?_
  refine ev_step (fun _ => by rw [laws_FnExactPutText.j3]) ?_
  refine ev_bind h2 (ev_bind (eqByteS _ (by omega)) (ev_pos rfl ?_))
  refine ev_step (fun _ => by rw [laws_FnExactPutText.j4]) ?_
  exact ev_bind (heldByteS _ (by omega)) (ev_neg (by omega) (ev_pos rfl (ev_now rfl)))
end Go.Proofs.Ythkepjgolaichaa.Pure
