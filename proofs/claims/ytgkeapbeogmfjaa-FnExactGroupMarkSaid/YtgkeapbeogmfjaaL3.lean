/- The plain side of the laws' own words on lists of numbers and on groups: copies, comparisons, marks. Condition: lists of at most 2^20 elements. -/
import Derived.Test.YtgkeapbeogmfjaaL0
import Derived.Test.YtgkeapbeogmfjaaQ0
import Derived.Test.YtgkeapbeogmfjaaQ14
import Derived.Test.YtgkeapbeogmfjaaQ15
import Derived.Test.YtgkeapbeogmfjaaQ16
namespace Go.Proofs.Ytgkeapbeogmfjaa.L
open Go.RowKit Go.Proofs.YtgkeapbeogmfjaaW.PrintWords Go.Proofs.YtgkeapbeogmfjaaW.PrintLast Go.Proofs.YtgkeapbeogmfjaaW.PrintMore Go.Proofs.Ytgkeapbeogmfjaa.Q

theorem toIntS_l0 (l : List Int) (hn : l.length ≤ 1048576) : ∀ (d i : Nat) (acc : List Int), i + d = l.length → acc.length = l.length → Ev (fun k => laws_toIntS.l0 k l acc (i : Int)) (acc.take i ++ l.drop i) := by
  intro d
  induction d with
  | zero =>
    intro i acc h1 h2
    refine ev_step (fun _ => rfl) (ev_neg (by omega) (ev_now ?_))
    simp [List.take_of_length_le (show acc.length ≤ i by omega), List.drop_eq_nil_of_le (show l.length ≤ i by omega)]
  | succ d ih =>
    intro i acc h1 h2
    refine ev_step (fun _ => rfl) (ev_pos (by omega) (ev_pos (by omega) (ev_pos (by omega) ?_)))
    have e : wrap64 ((i : Int) + 1) = ((i + 1 : Nat) : Int) := by rw [w64 (by omega) (by omega)]; omega
    rw [e, Int.toNat_natCast, rd_eq l i (by omega)]
    refine ev_eq ?_ (ih (i + 1) (acc.set i l[i]) (by omega) (by simp; omega))
    rw [List.take_succ_eq_append_getElem (by simp; omega), List.take_set_of_le (Nat.le_refl i), List.getElem_set_self, List.drop_eq_getElem_cons (show i < l.length by omega)]
    simp
theorem toIntS (l : List Int) (hn : l.length ≤ 1048576) : Ev (fun k => laws_toIntS.f k l) l := by
  refine ev_pos (by omega) (ev_pos (by omega) ?_)
  have := toIntS_l0 l hn l.length 0 (List.replicate ((l.length : Int)).toNat 0) (by omega) (by simp)
  simpa using this
theorem eqIntS_l0 (l : List Int) (hn : l.length ≤ 1048576) : ∀ (d i : Nat), i + d = l.length → Ev (fun k => laws_eqIntS.l0 k l l (i : Int)) true := by
  intro d
  induction d with
  | zero => intro i h; exact ev_step (fun _ => rfl) (ev_neg (by omega) (ev_now rfl))
  | succ d ih =>
    intro i h
    refine ev_step (fun _ => rfl) (ev_pos (by omega) (ev_pos (by omega) (ev_pos (by omega) (ev_pos rfl ?_))))
    have e : wrap64 ((i : Int) + 1) = ((i + 1 : Nat) : Int) := by rw [w64 (by omega) (by omega)]; omega
    rw [e]
    exact ih (i + 1) (by omega)
theorem eqIntS (l : List Int) (hn : l.length ≤ 1048576) : Ev (fun k => laws_eqIntS.f k l l) true := ev_pos rfl (eqIntS_l0 l hn l.length 0 (by omega))
theorem szIntS (l : List Int) (a : Int) (hl : l.length ≤ 9223372036854775807) (h0 : 0 ≤ a) (h1 : a ≤ 1048576) : ∃ r, laws_szIntS.f l a = some r ∧ r ≤ 1048576 ∧ (0 ≤ r → l.length ≤ 1048576) := by
  have e : wrap64 (a - (l.length : Int)) = a - (l.length : Int) := w64 (by omega) (by omega)
  unfold laws_szIntS.f
  rw [e]
  split
  · exact ⟨_, rfl, by omega, fun h => absurd h (by omega)⟩
  · exact ⟨_, rfl, by omega, fun h => by omega⟩
theorem szGroup (g : Int) (m b o : List Int) (hm : m.length ≤ maxLen) (hb : b.length ≤ maxLen) (ho : o.length ≤ maxLen) : ∃ r, laws_szGroup.f g m b o 1048576 = some r ∧ (0 ≤ r → m.length ≤ 1048576 ∧ b.length ≤ 1048576 ∧ o.length ≤ 1048576) := by
  unfold maxLen at hm hb ho
  unfold laws_szGroup.f
  obtain ⟨r1, e1, l1, k1⟩ := szIntS m 1048576 (by omega) (by omega) (by omega)
  rw [e1, Option.bind_some]
  split
  · exact ⟨_, rfl, fun h => absurd h (by omega)⟩
  · obtain ⟨r2, e2, l2, k2⟩ := szIntS b r1 (by omega) (by omega) (by omega)
    rw [e2, Option.bind_some]
    split
    · exact ⟨_, rfl, fun h => absurd h (by omega)⟩
    · obtain ⟨r3, e3, l3, k3⟩ := szIntS o r2 (by omega) (by omega) (by omega)
      rw [e3, Option.bind_some]
      split
      · exact ⟨_, rfl, fun h => absurd h (by omega)⟩
      · exact ⟨_, rfl, fun h => ⟨k1 (by omega), k2 (by omega), k3 h⟩⟩
theorem toGroup (g : Int) (m b o : List Int) (hm : m.length ≤ 1048576) (hb : b.length ≤ 1048576) (ho : o.length ≤ 1048576) : Ev (fun k => laws_toGroup.f k g m b o) (g, m, b, o) :=
  ev_bind (toIntS m hm) (ev_bind (toIntS b hb) (ev_bind (toIntS o ho) (ev_now rfl)))
theorem eqGroup (g : Int) (m b o : List Int) (hm : m.length ≤ 1048576) (hb : b.length ≤ 1048576) (ho : o.length ≤ 1048576) : Ev (fun k => laws_eqGroup.f k g m b o g m b o) true :=
  ev_pos rfl (ev_bind (eqIntS m hm) (ev_pos rfl (ev_bind (eqIntS b hb) (ev_pos rfl (ev_bind (eqIntS o ho) (ev_pos rfl (ev_now rfl)))))))
end Go.Proofs.Ytgkeapbeogmfjaa.L
