/- FnExactOwnerOf and FnExactGroupNew as plain statements: proved for all arguments. -/
import Derived.Test.YthkepjgolaichaaL2a
import Derived.Test.YthkepjgolaichaaL3
import Derived.Test.YthkepjgolaichaaL4
import Derived.Test.YthkepjgolaichaaQ0
import Derived.Test.YthkepjgolaichaaQ12
import Derived.Test.YthkepjgolaichaaQ13
import Derived.Test.YthkepjgolaichaaQ14
import Derived.Test.YthkepjgolaichaaQ15
import Derived.Test.YthkepjgolaichaaQ16
import Derived.Test.YthkepjgolaichaaQ17
import Derived.Test.YthkepjgolaichaaQ18
namespace Go.Proofs.Ythkepjgolaichaa.Pure
open Go.RowKit Go.Proofs.YthkepjgolaichaaW.PrintWords Go.Proofs.YthkepjgolaichaaW.PrintLast Go.Proofs.YthkepjgolaichaaW.PrintMore Go.Proofs.Ythkepjgolaichaa.Q Go.Proofs.Ythkepjgolaichaa.L

theorem owner (g : Int) (m b o : List Int) (row : Int) : ∃ r, spec_OwnerOf.f g m b o row = some r ∧ impl_OwnerOf.f g m b o row = some r := by
  unfold spec_OwnerOf.f impl_OwnerOf.f
  split
  · exact ⟨_, rfl, rfl⟩
  · split
    · exact ⟨_, rfl, rfl⟩
    · have h1 : 0 ≤ Int.tmod row (m.length : Int) := by rw [Int.tmod_eq_emod_of_nonneg (by omega)]; exact Int.emod_nonneg _ (by omega)
      have h2 : Int.tmod row (m.length : Int) < (m.length : Int) := by rw [Int.tmod_eq_emod_of_nonneg (by omega)]; exact Int.emod_lt_of_pos _ (by omega)
      rw [if_pos h1, if_pos h2]
      exact ⟨_, rfl, rfl⟩
theorem FnExactOwnerOf (g : Int) (m b o : List Int) (row : Int) (_ : (Lit.int .i64 g).wf = true) (hm : m.length ≤ maxLen ∧ ∀ y ∈ m, (Lit.int .i64 y).wf = true) (hb : b.length ≤ maxLen ∧ ∀ y ∈ b, (Lit.int .i64 y).wf = true) (ho : o.length ≤ maxLen ∧ ∀ y ∈ o, (Lit.int .i64 y).wf = true) (_ : (Lit.int .i64 row).wf = true) :
    ∃ k, laws_FnExactOwnerOf.f k g m b o row = some true := by
  refine Ev.rounds (g := fun k => laws_FnExactOwnerOf.f k g m b o row) ?_
  obtain ⟨r, hr, hs⟩ := szGroup g m b o hm.1 hb.1 ho.1
  refine ev_some hr (ev_ite (fun _ => ev_now rfl) (fun h => ?_))
  obtain ⟨h1, h2, h3⟩ := hs (by omega)
  obtain ⟨v, e1, e2⟩ := owner g m b o row
  refine ev_step (fun _ => by rw [laws_FnExactOwnerOf.j0]) ?_
  refine ev_bind (toGroup g m b o h1 h2 h3) (ev_some e1 (ev_bind (toGroup g m b o h1 h2 h3) (ev_some e2 (ev_pos rfl ?_))))
  refine ev_step (fun _ => by rw [laws_FnExactOwnerOf.j1]) ?_
  exact ev_bind (toGroup g m b o h1 h2 h3) (ev_bind (eqGroup g m b o h1 h2 h3) (ev_pos rfl (ev_now rfl)))
theorem groupNew (r : Int) : ∃ o : List Int, o.length ≤ 4 ∧ spec_GroupNew.f r = some (0, [], [], o) ∧ impl_GroupNew.f r = some (0, [], [], o) := by
  unfold spec_GroupNew.f impl_GroupNew.f
  rw [specIn, implIn]
  simp only [Option.bind_some]
  by_cases h : inb r 1 4 = true
  · have h' := inb_true.mp h
    simp only [if_pos h, if_pos (show 0 ≤ r by omega), if_pos (show r.toNat ≤ 35184372088832 by omega)]
    exact ⟨_, by simp; omega, rfl, rfl⟩
  · simp only [if_neg h]
    exact ⟨[], by simp, rfl, rfl⟩
theorem FnExactGroupNew (r : Int) (_ : (Lit.int .i64 r).wf = true) : ∃ k, laws_FnExactGroupNew.f k r = some true := by
  refine Ev.rounds (g := fun k => laws_FnExactGroupNew.f k r) ?_
  obtain ⟨o, hl, e1, e2⟩ := groupNew r
  have q : Ev (fun k => laws_eqGroup.f k 0 [] [] o 0 [] [] o) true := eqGroup 0 [] [] o (by simp) (by simp) (by omega)
  have m : Ev (fun k => laws_markGroup.f k 0 [] [] o 1) (((1 + o.length : Nat) : Int), upFrom 1 0, upFrom 1 0, upFrom 1 o.length) := markGroup 1 0 [] [] o (by omega) (by simp) (by simp) (by omega)
  have e : Ev (fun k => laws_heldGroup.f k 0 (upFrom 1 0) (upFrom 1 0) (upFrom 1 o.length) 1) ((1 + o.length : Nat) : Int) := heldGroup 1 0 0 0 o.length (by omega) (by omega) (by omega) (by omega)
  refine ev_some e1 (ev_some e2 (ev_bind q (ev_pos rfl ?_)))
  refine ev_step (fun _ => by rw [laws_FnExactGroupNew.j0]) ?_
  refine ev_bind m (ev_bind e (ev_neg (by omega) ?_))
  refine ev_step (fun _ => by rw [laws_FnExactGroupNew.j1]) ?_
  refine ev_pos rfl ?_
  refine ev_step (fun _ => by rw [laws_FnExactGroupNew.j2]) ?_
  refine ev_some e2 (ev_bind q (ev_pos rfl ?_))
  refine ev_step (fun _ => by rw [laws_FnExactGroupNew.j3]) ?_
  exact ev_bind e (ev_neg (by omega) (ev_pos rfl (ev_now rfl)))
end Go.Proofs.Ythkepjgolaichaa.Pure
