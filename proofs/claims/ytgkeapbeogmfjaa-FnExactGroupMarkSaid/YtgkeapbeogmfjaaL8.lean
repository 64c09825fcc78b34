/- The plain side of GroupMark and OwnerOf: program and reference come to one answer. Condition: lists of at most 2^20 elements. -/
import Derived.Test.YtgkeapbeogmfjaaL0
import Derived.Test.YtgkeapbeogmfjaaL2a
import Derived.Test.YtgkeapbeogmfjaaQ0
import Derived.Test.YtgkeapbeogmfjaaQ17
import Derived.Test.YtgkeapbeogmfjaaQ18
import Derived.Test.YtgkeapbeogmfjaaQ19
import Derived.Test.YtgkeapbeogmfjaaQ20
import Derived.Test.YtgkeapbeogmfjaaQ21
namespace Go.Proofs.Ytgkeapbeogmfjaa.L
open Go.RowKit Go.Proofs.YtgkeapbeogmfjaaW.PrintWords Go.Proofs.YtgkeapbeogmfjaaW.PrintLast Go.Proofs.YtgkeapbeogmfjaaW.PrintMore Go.Proofs.Ytgkeapbeogmfjaa.Q

theorem owner (g : Int) (m b o : List Int) (row : Int) : ∃ r, spec_OwnerOf.f g m b o row = some r ∧ impl_OwnerOf.f g m b o row = some r := by
  unfold spec_OwnerOf.f impl_OwnerOf.f
  split
  · exact ⟨_, rfl, rfl⟩
  · split
    · exact ⟨_, rfl, rfl⟩
    · have h1 : 0 ≤ Int.tmod row (m.length : Int) := by rw [Int.tmod_eq_emod_of_nonneg (by omega)]; exact Int.emod_nonneg _ (by omega)
      have h2 : Int.tmod row (m.length : Int) < (m.length : Int) := by rw [Int.tmod_eq_emod_of_nonneg (by omega)]; exact Int.emod_lt_of_pos _ (by omega)
      rw [if_pos h1, if_pos h2]
      exact ⟨_, rfl, rfl⟩
theorem specCopy (g : Int) (m b o : List Int) (hm : m.length ≤ 1048576) (hb : b.length ≤ 1048576) (ho : o.length ≤ 1048576) : spec_l5Copy.f g m b o = some (g, m, b, o) := by
  unfold spec_l5Copy.f
  simp only [Option.bind_some, List.length_nil, List.nil_append]
  rw [if_pos (by omega), if_pos (by omega), if_pos (by omega)]
theorem implInts (l : List Int) (hl : l.length ≤ 1048576) : impl_copyInts.f l = some l := by
  unfold impl_copyInts.f
  simp only [List.length_nil, List.nil_append]
  rw [if_pos (by omega)]
theorem implCopy (g : Int) (m b o : List Int) (hm : m.length ≤ 1048576) (hb : b.length ≤ 1048576) (ho : o.length ≤ 1048576) : impl_copyGroup.f g m b o = some (g, m, b, o) := by
  unfold impl_copyGroup.f
  rw [implInts m hm, Option.bind_some, implInts b hb, Option.bind_some, implInts o ho, Option.bind_some]
/-- what GroupMark comes to -/
theorem groupMark (g : Int) (m b o : List Int) (who gen row off : Int) (hm : m.length ≤ 1048576) (hb : b.length ≤ 1048576) (ho : o.length ≤ 1048576) :
    ∃ (o' : List Int) (ok : Bool), o'.length = o.length ∧ (ok = false → o' = o) ∧ (ok = true → 0 ≤ row ∧ row < (o.length : Int) ∧ o' = o.set row.toNat off ∧ rd o row ≤ off ∧ gen = g ∧ impl_OwnerOf.f g m b o row = some who) ∧
      Ev (fun k => spec_GroupMark.f k g m b o who gen row off) (g, m, b, o', ok) ∧ Ev (fun k => impl_GroupMark.f k g m b o who gen row off) (g, m, b, o', ok) := by
  have no : ∀ c : Bool, c = true → Ev (fun k => spec_GroupMark.j0 k row off c g m b o) (g, m, b, o, false) := fun c hc => ev_step (fun _ => rfl) (ev_pos hc (ev_now rfl))
  have no' : ∀ c : Bool, c = true → Ev (fun k => impl_GroupMark.j0 k row off c g m b o) (g, m, b, o, false) := fun c hc => ev_step (fun _ => rfl) (ev_pos hc (ev_now rfl))
  have e : wrap64 ((o.length : Int) - 1) = (o.length : Int) - 1 := w64 (by omega) (by omega)
  obtain ⟨w, w1, w2⟩ := owner g m b o row
  by_cases h1 : gen = g
  · by_cases h2 : inb row 0 ((o.length : Int) - 1) = true
    · have h2' := inb_true.mp h2
      by_cases h3 : w = who
      · by_cases h4 : off < rd o row
        · refine ⟨o, false, rfl, fun _ => rfl, fun h => by simp at h, ?_, ?_⟩
          · refine ev_some (specCopy g m b o hm hb ho) (ev_pos h1 (ev_some (specIn _ _ _) ?_))
            rw [e]
            exact ev_pos h2 (ev_some w1 (ev_pos h3 (ev_pos (by omega) (ev_pos (by omega) (no _ (decide_eq_true h4))))))
          · refine ev_some (implCopy g m b o hm hb ho) (ev_pos h1 (ev_some (implIn _ _ _) ?_))
            rw [e]
            exact ev_pos h2 (ev_some w2 (ev_pos h3 (ev_pos (by omega) (ev_pos (by omega) (no' _ (decide_eq_true h4))))))
        · refine ⟨o.set row.toNat off, true, by simp, fun h => by simp at h, fun _ => ⟨h2'.1, by omega, rfl, by omega, h1, by rw [w2, h3]⟩, ?_, ?_⟩
          · refine ev_some (specCopy g m b o hm hb ho) (ev_pos h1 (ev_some (specIn _ _ _) ?_))
            rw [e]
            refine ev_pos h2 (ev_some w1 (ev_pos h3 (ev_pos (by omega) (ev_pos (by omega) ?_))))
            exact ev_step (fun _ => rfl) (ev_neg (by simpa using h4) (ev_pos (show (0:Int) ≤ row by omega) (ev_pos (show row < (o.length : Int) by omega) (ev_now rfl))))
          · refine ev_some (implCopy g m b o hm hb ho) (ev_pos h1 (ev_some (implIn _ _ _) ?_))
            rw [e]
            refine ev_pos h2 (ev_some w2 (ev_pos h3 (ev_pos (by omega) (ev_pos (by omega) ?_))))
            exact ev_step (fun _ => rfl) (ev_neg (by simpa using h4) (ev_pos (show (0:Int) ≤ row by omega) (ev_pos (show row < (o.length : Int) by omega) (ev_now rfl))))
      · refine ⟨o, false, rfl, fun _ => rfl, fun h => by simp at h, ?_, ?_⟩
        · refine ev_some (specCopy g m b o hm hb ho) (ev_pos h1 (ev_some (specIn _ _ _) ?_))
          rw [e]
          exact ev_pos h2 (ev_some w1 (ev_neg h3 (no _ rfl)))
        · refine ev_some (implCopy g m b o hm hb ho) (ev_pos h1 (ev_some (implIn _ _ _) ?_))
          rw [e]
          exact ev_pos h2 (ev_some w2 (ev_neg h3 (no' _ rfl)))
    · refine ⟨o, false, rfl, fun _ => rfl, fun h => by simp at h, ?_, ?_⟩
      · refine ev_some (specCopy g m b o hm hb ho) (ev_pos h1 (ev_some (specIn _ _ _) ?_))
        rw [e]
        exact ev_neg h2 (no _ rfl)
      · refine ev_some (implCopy g m b o hm hb ho) (ev_pos h1 (ev_some (implIn _ _ _) ?_))
        rw [e]
        exact ev_neg h2 (no' _ rfl)
  · refine ⟨o, false, rfl, fun _ => rfl, fun h => by simp at h, ?_, ?_⟩
    · exact ev_some (specCopy g m b o hm hb ho) (ev_neg h1 (no _ rfl))
    · exact ev_some (implCopy g m b o hm hb ho) (ev_neg h1 (no' _ rfl))
end Go.Proofs.Ytgkeapbeogmfjaa.L
