/- FnExactSetupOk, FnExactAnswerOk and FnExactCmdOk as plain statements: proved for all arguments. -/
import Derived.Test.YthkepjgolaichaaL2
import Derived.Test.YthkepjgolaichaaQ0
import Derived.Test.YthkepjgolaichaaQ21
import Derived.Test.YthkepjgolaichaaQ3
import Derived.Test.YthkepjgolaichaaQ4
import Derived.Test.YthkepjgolaichaaQ5
import Derived.Test.YthkepjgolaichaaQ8
namespace Go.Proofs.Ythkepjgolaichaa.Pure
open Go.RowKit Go.Proofs.YthkepjgolaichaaW.PrintWords Go.Proofs.YthkepjgolaichaaW.PrintLast Go.Proofs.YthkepjgolaichaaW.PrintMore Go.Proofs.Ythkepjgolaichaa.Q Go.Proofs.Ythkepjgolaichaa.L

theorem FnExactSetupOk (r w l k : Int) (_ : (Lit.int .i64 r).wf = true) (_ : (Lit.int .i64 w).wf = true) (_ : (Lit.int .i64 l).wf = true) (_ : (Lit.int .i64 k).wf = true) : ∃ _ : Nat, laws_FnExactSetupOk.f r w l k = some true := by
  refine ⟨0, ?_⟩
  simp [laws_FnExactSetupOk.f, laws_toSetup.f, specSetup, implSetup]
theorem FnExactAnswerOk (c n : Int) (k t : ByteArray) (_ : (Lit.int .i64 c).wf = true) (_ : (Lit.int .i64 n).wf = true) (hk : k.size ≤ maxLen) (ht : t.size ≤ maxLen) : ∃ m, laws_FnExactAnswerOk.f m c n k t = some true := by
  refine Ev.rounds (g := fun m => laws_FnExactAnswerOk.f m c n k t) ?_
  obtain ⟨r, hr⟩ : ∃ r, laws_szAnswer.f c n k t 1048576 = some r := by
    unfold laws_szAnswer.f
    split
    · exact ⟨_, rfl⟩
    · split
      · exact ⟨_, rfl⟩
      · exact ⟨_, rfl⟩
  refine ev_some hr (ev_ite (fun _ => ev_now rfl) (fun _ => ?_))
  exact ev_some rfl (ev_bind (specAnswer c n k t hk ht) (ev_some rfl (ev_bind (implAnswer c n k t hk ht) (ev_neg (by simp) (ev_now rfl)))))
theorem FnExactCmdOk (w s o a b c : Int) (k t : ByteArray) (_ : (Lit.int .i64 w).wf = true) (_ : (Lit.int .i64 s).wf = true) (_ : (Lit.int .i64 o).wf = true) (_ : (Lit.int .i64 a).wf = true) (_ : (Lit.int .i64 b).wf = true) (_ : (Lit.int .i64 c).wf = true) (hk : k.size ≤ maxLen) (ht : t.size ≤ maxLen) :
    ∃ m, laws_FnExactCmdOk.f m w s o a b c k t = some true := by
  refine Ev.rounds (g := fun m => laws_FnExactCmdOk.f m w s o a b c k t) ?_
  obtain ⟨r, hr⟩ : ∃ r, laws_szCmd.f w s o a b c k t 1048576 = some r := by
    unfold laws_szCmd.f
    split
    · exact ⟨_, rfl⟩
    · split
      · exact ⟨_, rfl⟩
      · exact ⟨_, rfl⟩
  refine ev_some hr (ev_ite (fun _ => ev_now rfl) (fun _ => ?_))
  exact ev_some rfl (ev_bind (specCmd w s o a b c k t hk ht) (ev_some rfl (ev_bind (implCmd w s o a b c k t hk ht) (ev_neg (by simp) (ev_now rfl)))))
end Go.Proofs.Ythkepjgolaichaa.Pure
