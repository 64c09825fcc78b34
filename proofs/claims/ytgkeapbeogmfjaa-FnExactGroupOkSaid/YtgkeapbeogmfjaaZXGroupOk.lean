/- The law FnExactGroupOk holds, for all arguments: its row, and behind it the plain side of what the program and the reference compute. Conditions: those that each theorem states; the row has none. -/
import Derived.Test.YtgkeapbeogmfjaaRows
import Derived.Deep.Slices
import Derived.ChangeArms
import Derived.WideShapes
import Derived.WalkKit
import Derived.ProofKit
import Derived.OpenShut
import Derived.ShutString
import Derived.ChangeOld
import Derived.Below
import Derived.SizedLaws
import Derived.Test.YtgkeapbeogmfjaaZXGroupOk0
import Derived.Test.YtgkeapbeogmfjaaZXGroupOka
import Derived.Test.YtgkeapbeogmfjaaZXGroupOkb
/- What is read as data is of a printed kind: whole numbers, texts, structs of one-cell fields, slices. For the laws' rows. No condition. -/
namespace Go.Proofs.Ytgkeapbeogmfjaa.R
open Go.RowKit Go.Proofs.YtgkeapbeogmfjaaW.PrintWords Go.WideShapes

/-- Whatever is read as data of type t has cells that are of kind d. -/
def Rd {α : Type} (P : Program) (t : TypeId) (d : Kd α) (wf : α → Prop) : Prop :=
  ∀ (H : Type) (enc : TypeId × Value → H) (W : World) (base : Nat) (spare : Nat → Bool) (held : Bool) (fuel : Nat) (cs : List Value) (x : DataW H × List MemPlace),
    DataW.trod enc P W base spare held fuel t cs = some x → ∃ a, d.K W a cs ∧ wf a
theorem rd_int {P : Program} {t : TypeId} {k : IntKind} (ht : P.underlying t = some (.int k)) : Rd P t (Kd.int k) (fun n => (Lit.int k n).wf = true) := by
  intro H enc W base spare held fuel cs x h
  obtain ⟨n, rfl, _, hw⟩ := DataW.trod_int ht h
  exact ⟨n, rfl, hw⟩
theorem rd_string {P : Program} {t : TypeId} (ht : P.underlying t = some .string) : Rd P t Kd.string (fun s => s.size ≤ maxLen) := by
  intro H enc W base spare held fuel cs x h
  obtain ⟨s, rfl, _, hw⟩ := DataW.trod_string ht h
  exact ⟨s, rfl, hw⟩
theorem rd_slice {α : Type} {P : Program} {t e : TypeId} {d : Kd α} {wf : α → Prop} (ht : P.underlying t = some (.slice e)) (hs : P.cellsOf e = d.sz) (hr : Rd P e d wf) :
    Rd P t (Kd.slice e d) (fun xs => xs.length ≤ maxLen ∧ ∀ x ∈ xs, wf x) := by
  intro H enc W base spare held fuel cs x h
  rcases Go.Deep.open_slice ht h with ⟨rfl, _⟩ | ⟨a, len, cap, m, n, D, Pl, rfl, hb, hl, hm, hmm, _, hx⟩
  · exact ⟨[], ⟨none, 0, rfl, Nat.le_refl _, rfl, by simp, fun h0 => absurd h0 (by simp)⟩, by simp, by simp⟩
  · have hml : len ≤ m := by rw [hmm]; split <;> omega
    have key : ∀ i, i < len → ∃ p : α, wf p ∧ ∃ c, c.length = d.sz ∧ d.K W p c ∧ ∀ q u, c[q]? = some u → W.cell? (a.add (i * d.sz + q)) = some u := by
      intro i hi
      obtain ⟨cs', h1, h2⟩ := hx i (by omega)
      obtain ⟨p, hp, hw⟩ := hr H enc W base spare held n cs' _ h2
      obtain ⟨_, hlen, hc⟩ := World.cells?_some h1
      rw [hs] at hlen hc
      refine ⟨p, hw, cs', hlen, hp, fun q u hq => ?_⟩
      have hq' : q < d.sz := by
        have := (List.getElem?_eq_some_iff.1 hq).1
        omega
      rw [← hq, ← hc q hq', Go.Deep.add_add]
    have key2 : ∃ f : Nat → Option α, ∀ i, i < len → ∃ p, f i = some p ∧ wf p ∧ ∃ c, c.length = d.sz ∧ d.K W p c ∧ ∀ q u, c[q]? = some u → W.cell? (a.add (i * d.sz + q)) = some u := by
      classical
      refine ⟨fun i => if hi : i < len then some (Classical.choose (key i hi)) else none, fun i hi => ⟨Classical.choose (key i hi), by simp [hi], Classical.choose_spec (key i hi)⟩⟩
    obtain ⟨f, hf⟩ := key2
    have hlen : ∀ k, k ≤ len → ((List.range k).filterMap f).length = k ∧ ∀ j, j < k → ((List.range k).filterMap f)[j]? = f j := by
      intro k
      induction k with
      | zero => intro _; exact ⟨rfl, fun j hj => absurd hj (by omega)⟩
      | succ k ih =>
        intro hk
        obtain ⟨i1, i2⟩ := ih (by omega)
        obtain ⟨p, hp, _⟩ := hf k (by omega)
        have e : (List.range (k + 1)).filterMap f = (List.range k).filterMap f ++ [p] := by rw [List.range_succ, List.filterMap_append]; simp [hp]
        refine ⟨by rw [e]; simp [i1], fun j hj => ?_⟩
        rw [e]
        rcases Nat.lt_or_ge j k with h1 | h1
        · rw [List.getElem?_append_left (by omega)]; exact i2 j h1
        · obtain rfl : j = k := by omega
          rw [List.getElem?_append_right (by omega), i1]; simp [hp]
    obtain ⟨i1, i2⟩ := hlen len (Nat.le_refl _)
    refine ⟨(List.range len).filterMap f, ⟨some a, cap, by rw [i1], by rw [i1]; exact hl, rfl, by rw [i1]; simp only [maxLen] at hm; omega, fun _ => ⟨a, rfl, fun j p hj => ?_⟩⟩, by rw [i1]; omega, fun p hp => ?_⟩
    · have hj' : j < len := by
        have := (List.getElem?_eq_some_iff.1 hj).1
        omega
      obtain ⟨p', hp', _, hc⟩ := hf j hj'
      rw [i2 j hj', hp'] at hj
      cases hj
      exact hc
    · obtain ⟨i, hi, hfi⟩ := List.mem_filterMap.1 hp
      obtain ⟨p', hp', hw, _⟩ := hf i (by simpa using hi)
      rw [hp'] at hfi
      cases hfi
      exact hw
/-- The fields of a struct, each of one cell, cell by cell. -/
theorem rd_fields {H : Type} {enc : TypeId × Value → H} {P : Program} {W : World} {base : Nat} {spare : Nat → Bool} {held : Bool} {fuel : Nat} {t : TypeId} {fs : Array Field} {cs : List Value} {x : DataW H × List MemPlace}
    (ht : P.underlying t = some (.struct fs)) (h : DataW.trod enc P W base spare held fuel t cs = some x) : cs.length = P.cellsOf t ∧ ∃ n, ∀ (i : Nat) (f : Field), fs[i]? = some f → ∃ y, DataW.trod enc P W base spare held n f.type ((cs.drop f.offset).take (P.cellsOf f.type)) = some y := by
  obtain ⟨xs, n, _, _, hl, hlen, hf⟩ := DataW.trod_struct ht h
  refine ⟨hl, n, fun i f hi => ?_⟩
  have hi' : i < xs.length := by
    rw [hlen]
    exact (Array.getElem?_eq_some_iff.1 hi).1
  exact ⟨xs[i], by rw [hf i f hi, List.getElem?_eq_getElem hi']⟩
end Go.Proofs.Ytgkeapbeogmfjaa.R

/- How the laws' arguments of this seat are opened: what is read as data has the cells that the walks want. No condition. -/
namespace Go.Proofs.Ytgkeapbeogmfjaa.R
open Go.RowKit Go.Proofs.YtgkeapbeogmfjaaW.PrintWords Go.WideShapes Go.Proofs.Ytgkeapbeogmfjaa.Q
set_option linter.unusedVariables false
theorem cells_2 {cs : List Value} (h : cs.length = 2) : ∃ z0 z1, cs = [z0, z1] := by
  match cs, h with
  | [y0, y1], _ => exact ⟨y0, y1, rfl⟩
theorem cells_4 {cs : List Value} (h : cs.length = 4) : ∃ z0 z1 z2 z3, cs = [z0, z1, z2, z3] := by
  match cs, h with
  | [y0, y1, y2, y3], _ => exact ⟨y0, y1, y2, y3, rfl⟩
theorem cells_5 {cs : List Value} (h : cs.length = 5) : ∃ z0 z1 z2 z3 z4, cs = [z0, z1, z2, z3, z4] := by
  match cs, h with
  | [y0, y1, y2, y3, y4], _ => exact ⟨y0, y1, y2, y3, y4, rfl⟩
theorem open_LGroup {H : Type} {enc : TypeId × Value → H} {W : World} {base : Nat} {spare : Nat → Bool} {held : Bool} {fuel : Nat} {cs : List Value} {x : DataW H × List MemPlace} (h : DataW.trod enc Try.prog W base spare held fuel 24 cs = some x) :
    ∃ (b0 : Int) (b1 : List Int) (b2 : List Int) (b3 : List Int) (A1 : Option Addr) (c1 : Nat) (A2 : Option Addr) (c2 : Nat) (A3 : Option Addr) (c3 : Nat), cs = [.int .i64 b0, .slice A1 b1.length c1, .slice A2 b2.length c2, .slice A3 b3.length c3] ∧ ((Lit.int .i64 b0).wf = true) ∧ (b1.length ≤ maxLen ∧ ∀ y ∈ b1, (Lit.int .i64 y).wf = true) ∧ (b2.length ≤ maxLen ∧ ∀ y ∈ b2, (Lit.int .i64 y).wf = true) ∧ (b3.length ≤ maxLen ∧ ∀ y ∈ b3, (Lit.int .i64 y).wf = true) ∧ b1.length ≤ c1 ∧ Kd.C (Kd.int .i64) W A1 b1.length b1 ∧ b2.length ≤ c2 ∧ Kd.C (Kd.int .i64) W A2 b2.length b2 ∧ b3.length ≤ c3 ∧ Kd.C (Kd.int .i64) W A3 b3.length b3 := by
  obtain ⟨hl, n, hf⟩ := rd_fields Try.underlying24 h
  have hl' : cs.length = 4 := hl.trans (by kernel_rfl)
  obtain ⟨z0, z1, z2, z3, rfl⟩ := cells_4 hl'
  have cc3 : Try.prog.cellsOf 3 = 1 := by kernel_rfl
  have cc22 : Try.prog.cellsOf 22 = 1 := by kernel_rfl
  obtain ⟨e0, he0⟩ := hf 0 _ rfl
  have hc0 : DataW.trod enc Try.prog W base spare held n 3 [z0] = some e0 := by simpa [cc3] using he0
  obtain ⟨b0, hk0, w0⟩ := (rd_int Try.underlying3) H enc W base spare held n [z0] _ hc0
  obtain rfl : z0 = .int .i64 b0 := by injection hk0
  obtain ⟨e1, he1⟩ := hf 1 _ rfl
  have hc1 : DataW.trod enc Try.prog W base spare held n 22 [z1] = some e1 := by simpa [cc22] using he1
  obtain ⟨b1, hk1, w1⟩ := (rd_slice Try.underlying22 (by kernel_rfl) (rd_int Try.underlying3)) H enc W base spare held n [z1] _ hc1
  obtain ⟨A1, c1, hz1, l1, g1⟩ := hk1
  obtain rfl : z1 = .slice A1 b1.length c1 := by injection hz1
  obtain ⟨e2, he2⟩ := hf 2 _ rfl
  have hc2 : DataW.trod enc Try.prog W base spare held n 22 [z2] = some e2 := by simpa [cc22] using he2
  obtain ⟨b2, hk2, w2⟩ := (rd_slice Try.underlying22 (by kernel_rfl) (rd_int Try.underlying3)) H enc W base spare held n [z2] _ hc2
  obtain ⟨A2, c2, hz2, l2, g2⟩ := hk2
  obtain rfl : z2 = .slice A2 b2.length c2 := by injection hz2
  obtain ⟨e3, he3⟩ := hf 3 _ rfl
  have hc3 : DataW.trod enc Try.prog W base spare held n 22 [z3] = some e3 := by simpa [cc22] using he3
  obtain ⟨b3, hk3, w3⟩ := (rd_slice Try.underlying22 (by kernel_rfl) (rd_int Try.underlying3)) H enc W base spare held n [z3] _ hc3
  obtain ⟨A3, c3, hz3, l3, g3⟩ := hk3
  obtain rfl : z3 = .slice A3 b3.length c3 := by injection hz3
  exact ⟨b0, b1, b2, b3, A1, c1, A2, c2, A3, c3, rfl, w0, w1, w2, w3, l1, g1, l2, g2, l3, g3⟩
def WF_LMark (x : S_LMark) : Prop := ((Lit.int .i64 x.f0).wf = true) ∧ ((Lit.int .i64 x.f1).wf = true)
theorem rd_LMark : Rd Try.prog 154 k_LMark WF_LMark := by
  intro H enc W base spare held fuel cs x h
  obtain ⟨hl, n, hf⟩ := rd_fields Try.underlying154 h
  have hl' : cs.length = 2 := hl.trans (by kernel_rfl)
  obtain ⟨z0, z1, rfl⟩ := cells_2 hl'
  have cc3 : Try.prog.cellsOf 3 = 1 := by kernel_rfl
  obtain ⟨e0, he0⟩ := hf 0 _ rfl
  have hc0 : DataW.trod enc Try.prog W base spare held n 3 [z0] = some e0 := by simpa [cc3] using he0
  obtain ⟨b0, hk0, w0⟩ := (rd_int Try.underlying3) H enc W base spare held n [z0] _ hc0
  obtain rfl : z0 = .int .i64 b0 := by injection hk0
  obtain ⟨e1, he1⟩ := hf 1 _ rfl
  have hc1 : DataW.trod enc Try.prog W base spare held n 3 [z1] = some e1 := by simpa [cc3] using he1
  obtain ⟨b1, hk1, w1⟩ := (rd_int Try.underlying3) H enc W base spare held n [z1] _ hc1
  obtain rfl : z1 = .int .i64 b1 := by injection hk1
  exact ⟨⟨b0, b1⟩, k_LMark_mk W ⟨b0, b1⟩ , ⟨w0, w1⟩⟩
theorem open_LMaker {H : Type} {enc : TypeId × Value → H} {W : World} {base : Nat} {spare : Nat → Bool} {held : Bool} {fuel : Nat} {cs : List Value} {x : DataW H × List MemPlace} (h : DataW.trod enc Try.prog W base spare held fuel 48 cs = some x) :
    ∃ (b0 : Int) (b1 : Int) (b2 : Int) (b3 : Int) (b4 : List S_LMark) (A4 : Option Addr) (c4 : Nat), cs = [.int .i64 b0, .int .i64 b1, .int .i64 b2, .int .i64 b3, .slice A4 b4.length c4] ∧ ((Lit.int .i64 b0).wf = true) ∧ ((Lit.int .i64 b1).wf = true) ∧ ((Lit.int .i64 b2).wf = true) ∧ ((Lit.int .i64 b3).wf = true) ∧ (b4.length ≤ maxLen ∧ ∀ y ∈ b4, WF_LMark y) ∧ b4.length ≤ c4 ∧ Kd.C k_LMark W A4 b4.length b4 := by
  obtain ⟨hl, n, hf⟩ := rd_fields Try.underlying48 h
  have hl' : cs.length = 5 := hl.trans (by kernel_rfl)
  obtain ⟨z0, z1, z2, z3, z4, rfl⟩ := cells_5 hl'
  have cc3 : Try.prog.cellsOf 3 = 1 := by kernel_rfl
  have cc46 : Try.prog.cellsOf 46 = 1 := by kernel_rfl
  obtain ⟨e0, he0⟩ := hf 0 _ rfl
  have hc0 : DataW.trod enc Try.prog W base spare held n 3 [z0] = some e0 := by simpa [cc3] using he0
  obtain ⟨b0, hk0, w0⟩ := (rd_int Try.underlying3) H enc W base spare held n [z0] _ hc0
  obtain rfl : z0 = .int .i64 b0 := by injection hk0
  obtain ⟨e1, he1⟩ := hf 1 _ rfl
  have hc1 : DataW.trod enc Try.prog W base spare held n 3 [z1] = some e1 := by simpa [cc3] using he1
  obtain ⟨b1, hk1, w1⟩ := (rd_int Try.underlying3) H enc W base spare held n [z1] _ hc1
  obtain rfl : z1 = .int .i64 b1 := by injection hk1
  obtain ⟨e2, he2⟩ := hf 2 _ rfl
  have hc2 : DataW.trod enc Try.prog W base spare held n 3 [z2] = some e2 := by simpa [cc3] using he2
  obtain ⟨b2, hk2, w2⟩ := (rd_int Try.underlying3) H enc W base spare held n [z2] _ hc2
  obtain rfl : z2 = .int .i64 b2 := by injection hk2
  obtain ⟨e3, he3⟩ := hf 3 _ rfl
  have hc3 : DataW.trod enc Try.prog W base spare held n 3 [z3] = some e3 := by simpa [cc3] using he3
  obtain ⟨b3, hk3, w3⟩ := (rd_int Try.underlying3) H enc W base spare held n [z3] _ hc3
  obtain rfl : z3 = .int .i64 b3 := by injection hk3
  obtain ⟨e4, he4⟩ := hf 4 _ rfl
  have hc4 : DataW.trod enc Try.prog W base spare held n 46 [z4] = some e4 := by simpa [cc46] using he4
  obtain ⟨b4, hk4, w4⟩ := (rd_slice Try.underlying46 (by kernel_rfl) rd_LMark) H enc W base spare held n [z4] _ hc4
  obtain ⟨A4, c4, hz4, l4, g4⟩ := hk4
  obtain rfl : z4 = .slice A4 b4.length c4 := by injection hz4
  exact ⟨b0, b1, b2, b3, b4, A4, c4, rfl, w0, w1, w2, w3, w4, l4, g4⟩
end Go.Proofs.Ytgkeapbeogmfjaa.R

/- Small words for plain proofs: what comes to its answer at enough rounds, one step at a time; whole numbers of 64 bits. No condition. -/
namespace Go.Proofs.Ytgkeapbeogmfjaa.L
open Go.RowKit Go.Proofs.YtgkeapbeogmfjaaW.PrintWords Go.Proofs.YtgkeapbeogmfjaaW.PrintLast Go.Proofs.YtgkeapbeogmfjaaW.PrintMore

theorem ev_pos {α : Type} {c : Prop} [Decidable c] {f g : Nat → Option α} {r : α} (h : c) (k : Ev f r) : Ev (fun n => if c then f n else g n) r := by
  simpa only [if_pos h] using k
theorem ev_neg {α : Type} {c : Prop} [Decidable c] {f g : Nat → Option α} {r : α} (h : ¬ c) (k : Ev g r) : Ev (fun n => if c then f n else g n) r := by
  simpa only [if_neg h] using k
theorem ev_ite {α : Type} {c : Prop} [Decidable c] {f g : Nat → Option α} {r : α} (h : c → Ev f r) (k : ¬ c → Ev g r) : Ev (fun n => if c then f n else g n) r := by
  by_cases hc : c
  · exact ev_pos hc (h hc)
  · exact ev_neg hc (k hc)
theorem ev_some {α β : Type} {g : Option α} {f : Nat → α → Option β} {a : α} {r : β} (h : g = some a) (k : Ev (fun n => f n a) r) : Ev (fun n => g.bind (f n)) r := by
  subst h
  exact k
theorem ev_bind {α β : Type} {g : Nat → Option α} {f : Nat → α → Option β} {a : α} {r : β} (h : Ev g a) (k : Ev (fun n => f n a) r) : Ev (fun n => (g n).bind (f n)) r := Ev.bind h k
/-- one round more -/
theorem ev_step {α : Type} {g f : Nat → Option α} {r : α} (h : ∀ k, g (k + 1) = f k) (k : Ev f r) : Ev g r := Ev.step h k
theorem ev_eq {α : Type} {g : Nat → Option α} {r r' : α} (h : r = r') (k : Ev g r) : Ev g r' := h ▸ k
theorem ev_now {α : Type} {r r' : α} (h : r = r') : Ev (fun _ => some r) r' := h ▸ Ev.now r

theorem wf_i64 {x : Int} (h : (Lit.int .i64 x).wf = true) : -9223372036854775808 ≤ x ∧ x ≤ 9223372036854775807 := by
  simp [Lit.wf, IntKind.min, IntKind.max, IntKind.bits, IntKind.signed] at h
  exact h
theorem wf_u8 {x : Int} (h : (Lit.int .u8 x).wf = true) : 0 ≤ x ∧ x ≤ 255 := by
  simp [Lit.wf, IntKind.min, IntKind.max, IntKind.bits, IntKind.signed] at h
  exact h
theorem w64 {x : Int} (h0 : -9223372036854775808 ≤ x) (h1 : x ≤ 9223372036854775807) : wrap64 x = x := by
  unfold wrap64
  omega
theorem rd_eq (xs : List Int) (i : Nat) (h : i < xs.length) : rd xs (i : Int) = xs[i] := by
  simp [rd, List.getD_eq_getElem?_getD, h]
end Go.Proofs.Ytgkeapbeogmfjaa.L

/- The plain side of the laws' own words on lists of numbers and on groups: copies, comparisons, marks. Condition: lists of at most 2^20 elements. -/
namespace Go.Proofs.Ytgkeapbeogmfjaa.L
open Go.RowKit Go.Proofs.YtgkeapbeogmfjaaW.PrintWords Go.Proofs.YtgkeapbeogmfjaaW.PrintLast Go.Proofs.YtgkeapbeogmfjaaW.PrintMore Go.Proofs.Ytgkeapbeogmfjaa.Q

theorem toIntS_l0 (l : List Int) (hn : l.length ≤ 1048576) : ∀ (d i : Nat) (acc : List Int), i + d = l.length → acc.length = l.length → Ev (fun k => laws_toIntS.l0 k l acc (i : Int)) (acc.take i ++ l.drop i) := by
  intro d
  induction d with
  | zero =>
    intro i acc h1 h2
    refine ev_step (fun _ => rfl) (ev_neg (by omega) (ev_now ?_))
    simp [List.take_of_length_le (show acc.length ≤ i by omega), List.drop_eq_nil_of_le (show l.length ≤ i by omega)]
  | succ d ih =>
    intro i acc h1 h2
    refine ev_step (fun _ => rfl) (ev_pos (by omega) (ev_pos (by omega) (ev_pos (by omega) ?_)))
    have e : wrap64 ((i : Int) + 1) = ((i + 1 : Nat) : Int) := by rw [w64 (by omega) (by omega)]; omega
    rw [e, Int.toNat_natCast, rd_eq l i (by omega)]
    refine ev_eq ?_ (ih (i + 1) (acc.set i l[i]) (by omega) (by simp; omega))
    rw [List.take_succ_eq_append_getElem (by simp; omega), List.take_set_of_le (Nat.le_refl i), List.getElem_set_self, List.drop_eq_getElem_cons (show i < l.length by omega)]
    simp
theorem toIntS (l : List Int) (hn : l.length ≤ 1048576) : Ev (fun k => laws_toIntS.f k l) l := by
  refine ev_pos (by omega) (ev_pos (by omega) ?_)
  have := toIntS_l0 l hn l.length 0 (List.replicate ((l.length : Int)).toNat 0) (by omega) (by simp)
  simpa using this
theorem eqIntS_l0 (l : List Int) (hn : l.length ≤ 1048576) : ∀ (d i : Nat), i + d = l.length → Ev (fun k => laws_eqIntS.l0 k l l (i : Int)) true := by
  intro d
  induction d with
  | zero => intro i h; exact ev_step (fun _ => rfl) (ev_neg (by omega) (ev_now rfl))
  | succ d ih =>
    intro i h
    refine ev_step (fun _ => rfl) (ev_pos (by omega) (ev_pos (by omega) (ev_pos (by omega) (ev_pos rfl ?_))))
    have e : wrap64 ((i : Int) + 1) = ((i + 1 : Nat) : Int) := by rw [w64 (by omega) (by omega)]; omega
    rw [e]
    exact ih (i + 1) (by omega)
theorem eqIntS (l : List Int) (hn : l.length ≤ 1048576) : Ev (fun k => laws_eqIntS.f k l l) true := ev_pos rfl (eqIntS_l0 l hn l.length 0 (by omega))
theorem szIntS (l : List Int) (a : Int) (hl : l.length ≤ 9223372036854775807) (h0 : 0 ≤ a) (h1 : a ≤ 1048576) : ∃ r, laws_szIntS.f l a = some r ∧ r ≤ 1048576 ∧ (0 ≤ r → l.length ≤ 1048576) := by
  have e : wrap64 (a - (l.length : Int)) = a - (l.length : Int) := w64 (by omega) (by omega)
  unfold laws_szIntS.f
  rw [e]
  split
  · exact ⟨_, rfl, by omega, fun h => absurd h (by omega)⟩
  · exact ⟨_, rfl, by omega, fun h => by omega⟩
theorem szGroup (g : Int) (m b o : List Int) (hm : m.length ≤ maxLen) (hb : b.length ≤ maxLen) (ho : o.length ≤ maxLen) : ∃ r, laws_szGroup.f g m b o 1048576 = some r ∧ (0 ≤ r → m.length ≤ 1048576 ∧ b.length ≤ 1048576 ∧ o.length ≤ 1048576) := by
  unfold maxLen at hm hb ho
  unfold laws_szGroup.f
  obtain ⟨r1, e1, l1, k1⟩ := szIntS m 1048576 (by omega) (by omega) (by omega)
  rw [e1, Option.bind_some]
  split
  · exact ⟨_, rfl, fun h => absurd h (by omega)⟩
  · obtain ⟨r2, e2, l2, k2⟩ := szIntS b r1 (by omega) (by omega) (by omega)
    rw [e2, Option.bind_some]
    split
    · exact ⟨_, rfl, fun h => absurd h (by omega)⟩
    · obtain ⟨r3, e3, l3, k3⟩ := szIntS o r2 (by omega) (by omega) (by omega)
      rw [e3, Option.bind_some]
      split
      · exact ⟨_, rfl, fun h => absurd h (by omega)⟩
      · exact ⟨_, rfl, fun h => ⟨k1 (by omega), k2 (by omega), k3 h⟩⟩
theorem toGroup (g : Int) (m b o : List Int) (hm : m.length ≤ 1048576) (hb : b.length ≤ 1048576) (ho : o.length ≤ 1048576) : Ev (fun k => laws_toGroup.f k g m b o) (g, m, b, o) :=
  ev_bind (toIntS m hm) (ev_bind (toIntS b hb) (ev_bind (toIntS o ho) (ev_now rfl)))
theorem eqGroup (g : Int) (m b o : List Int) (hm : m.length ≤ 1048576) (hb : b.length ≤ 1048576) (ho : o.length ≤ 1048576) : Ev (fun k => laws_eqGroup.f k g m b o g m b o) true :=
  ev_pos rfl (ev_bind (eqIntS m hm) (ev_pos rfl (ev_bind (eqIntS b hb) (ev_pos rfl (ev_bind (eqIntS o ho) (ev_pos rfl (ev_now rfl)))))))
end Go.Proofs.Ytgkeapbeogmfjaa.L

/- The plain side of numbers within bounds: program and reference come to one answer. No condition. -/
namespace Go.Proofs.Ytgkeapbeogmfjaa.L
open Go.RowKit Go.Proofs.YtgkeapbeogmfjaaW.PrintWords Go.Proofs.YtgkeapbeogmfjaaW.PrintLast Go.Proofs.YtgkeapbeogmfjaaW.PrintMore Go.Proofs.Ytgkeapbeogmfjaa.Q

/-- is a number within bounds -/
def inb (x a b : Int) : Bool := decide (a ≤ x) && decide (x ≤ b)
theorem specIn (x a b : Int) : spec_l1In.f x a b = some (inb x a b) := by
  unfold spec_l1In.f inb
  by_cases h : x ≥ a
  · rw [if_pos h]; simp [show a ≤ x from h]
  · rw [if_neg h]; simp [show ¬ a ≤ x from h]
theorem implIn (x a b : Int) : impl_within.f x a b = some (inb x a b) := by
  unfold impl_within.f inb
  by_cases h : x ≥ a
  · rw [if_pos h]; simp [show a ≤ x from h]
  · rw [if_neg h]; simp [show ¬ a ≤ x from h]
theorem inb_true {x a b : Int} : inb x a b = true ↔ a ≤ x ∧ x ≤ b := by simp [inb]
theorem ev_and {g : Nat → Option Bool} {c d : Bool} (h : c = true → Ev g d) : Ev (fun n => if c = true then (g n) else some false) (c && d) := by
  cases c with
  | false => exact ev_neg (by simp) (ev_now rfl)
  | true => exact ev_pos rfl (by simpa using h rfl)

end Go.Proofs.Ytgkeapbeogmfjaa.L

/- The plain side of GroupOk: program and reference come to one answer. Condition: lists of at most 2^20 elements. -/
namespace Go.Proofs.Ytgkeapbeogmfjaa.L
open Go.RowKit Go.Proofs.YtgkeapbeogmfjaaW.PrintWords Go.Proofs.YtgkeapbeogmfjaaW.PrintLast Go.Proofs.YtgkeapbeogmfjaaW.PrintMore Go.Proofs.Ytgkeapbeogmfjaa.Q

/-- are all numbers from i on within bounds -/
def allB (l : List Int) : Nat → Nat → Bool
  | 0, _ => true
  | d + 1, i => inb (rd l (i : Int)) 0 100000 && allB l d (i + 1)
/-- is the member at i right in its place -/
def memAt (m : List Int) (i : Nat) : Bool := inb (rd m (i : Int)) 0 3 && !(decide (0 < i) && decide (rd m ((i : Int) - 1) ≥ rd m (i : Int)))
def allMem (m : List Int) : Nat → Nat → Bool
  | 0, _ => true
  | d + 1, i => memAt m i && allMem m d (i + 1)
/-- what GroupOk comes to -/
def groupOk (g : Int) (m b o : List Int) (rows : Int) : Bool :=
  decide (b.length = m.length) && (decide ((o.length : Int) = rows) && (inb g 0 100000 && (allMem m m.length 0 && (allB b b.length 0 && allB o o.length 0))))
theorem inB_inb (x a b : Int) : inB x a b = inb x a b := by
  unfold inB inb
  by_cases h1 : a ≤ x
  · by_cases h2 : x ≤ b
    · simp [h1, h2]
    · simp [h1, h2]
  · simp [h1]
theorem all_allB (l : List Int) : ∀ (d i : Nat), i + d = l.length → ((l.drop i).all fun x => inB x 0 100000) = allB l d i := by
  intro d
  induction d with
  | zero => intro i h; rw [List.drop_eq_nil_of_le (by omega)]; rfl
  | succ d ih =>
    intro i h
    rw [List.drop_eq_getElem_cons (show i < l.length by omega), List.all_cons, ih (i + 1) (by omega), inB_inb, ← rd_eq l i (by omega)]
    rfl
theorem allW (l : List Int) : impl_allWithin.f l 0 100000 = some (allB l l.length 0) := by
  unfold impl_allWithin.f
  have := all_allB l l.length 0 (by omega)
  simp only [List.drop_zero] at this
  rw [this]
theorem specOffs (g : Int) (m b o : List Int) (hn : o.length ≤ 1048576) : ∀ (d i : Nat), i + d = o.length → Ev (fun k => spec_GroupOk.l1 k (i : Int) g m b o) (allB o d i) := by
  intro d
  induction d with
  | zero =>
    intro i h
    refine ev_step (fun _ => by rw [spec_GroupOk.l1]) ?_
    exact ev_neg (by omega) (ev_now rfl)
  | succ d ih =>
    intro i h
    have e : wrap64 ((i : Int) + 1) = ((i + 1 : Nat) : Int) := by rw [w64 (by omega) (by omega)]; omega
    refine ev_step (fun _ => by rw [spec_GroupOk.l1]) ?_
    refine ev_pos (by omega) (ev_step (fun _ => by rw [spec_GroupOk.j7]) ?_)
    refine ev_pos (by omega) (ev_pos (by omega) (ev_some (specIn _ _ _) ?_))
    rw [e]
    by_cases q : inb (rd o (i : Int)) 0 100000 = true
    · refine ev_pos q (ev_eq ?_ (ih (i + 1) (by omega)))
      simp [allB, q]
    · exact ev_neg q (ev_now (by simp [allB, q]))
theorem specMem (g : Int) (m b o : List Int) (hm : m.length ≤ 1048576) (hl : b.length = m.length) (hn : o.length ≤ 1048576) : ∀ (d i : Nat), i + d = m.length →
    Ev (fun k => spec_GroupOk.l0 k (i : Int) g m b o) (allMem m d i && (allB b d i && allB o o.length 0)) := by
  intro d
  induction d with
  | zero =>
    intro i h
    refine ev_step (fun _ => by rw [spec_GroupOk.l0]) ?_
    refine ev_neg (by omega) (ev_step (fun _ => by rw [spec_GroupOk.j5]) ?_)
    exact ev_eq (by simp [allMem, allB]) (specOffs g m b o hn o.length 0 (by omega))
  | succ d ih =>
    intro i h
    have e : wrap64 ((i : Int) + 1) = ((i + 1 : Nat) : Int) := by rw [w64 (by omega) (by omega)]; omega
    have hw : 0 < i → wrap64 ((i : Int) - 1) = (i : Int) - 1 := fun q => w64 (by omega) (by omega)
    have stop : ∀ c : Bool, c = true → (memAt m i && inb (rd b (i : Int)) 0 100000) = false → Ev (fun k => spec_GroupOk.j4 k (i : Int) c g m b o) (allMem m (d + 1) i && (allB b (d + 1) i && allB o o.length 0)) := fun c hc q => by
      refine ev_step (fun _ => by rw [spec_GroupOk.j4]) ?_
      refine ev_pos hc (ev_now ?_)
      unfold allMem allB
      cases h1 : memAt m i with
      | false => simp
      | true =>
        rw [h1] at q
        simp at q
        simp [q]
    have cont : ∀ c : Bool, c = false → memAt m i = true → inb (rd b (i : Int)) 0 100000 = true → Ev (fun k => spec_GroupOk.j4 k (i : Int) c g m b o) (allMem m (d + 1) i && (allB b (d + 1) i && allB o o.length 0)) := fun c hc q1 q2 => by
      refine ev_step (fun _ => by rw [spec_GroupOk.j4]) ?_
      refine ev_neg (by simp [hc]) ?_
      rw [e]
      refine ev_eq ?_ (ih (i + 1) (by omega))
      simp [allMem, allB, q1, q2]
    have beat : memAt m i = true → Ev (fun k => (spec_l1In.f (rd b (i : Int)) 0 100000).bind fun t => spec_GroupOk.j4 k (i : Int) (!t) g m b o) (allMem m (d + 1) i && (allB b (d + 1) i && allB o o.length 0)) := fun q => by
      refine ev_some (specIn _ _ _) ?_
      cases hb : inb (rd b (i : Int)) 0 100000 with
      | true => exact cont _ rfl q hb
      | false => exact stop _ rfl (by rw [hb]; simp)
    refine ev_step (fun _ => by rw [spec_GroupOk.l0]) ?_
    refine ev_pos (by omega) (ev_step (fun _ => by rw [spec_GroupOk.j3]) ?_)
    refine ev_pos (by omega) (ev_pos (by omega) (ev_some (specIn _ _ _) ?_))
    by_cases q1 : inb (rd m (i : Int)) 0 3 = true
    · refine ev_pos q1 ?_
      by_cases q2 : 0 < i
      · refine ev_pos (by omega) ?_
        rw [hw q2]
        refine ev_pos (by omega) (ev_pos (by omega) ?_)
        by_cases q3 : rd m ((i : Int) - 1) ≥ rd m (i : Int)
        · exact ev_pos q3 (stop _ rfl (by simp [memAt, q2]; intro _ h; omega))
        · exact ev_neg q3 (ev_pos (by omega) (beat (by simp [memAt, q1]; omega)))
      · exact ev_neg (by omega) (ev_pos (by omega) (beat (by simp [memAt, q1]; omega)))
    · exact ev_neg q1 (stop _ rfl (by simp [memAt, q1]))
theorem specGroupOk (g : Int) (m b o : List Int) (rows : Int) (hm : m.length ≤ 1048576) (ho : o.length ≤ 1048576) : Ev (fun k => spec_GroupOk.f k g m b o rows) (groupOk g m b o rows) := by
  have no : ∀ c : Bool, c = true → groupOk g m b o rows = false → Ev (fun k => spec_GroupOk.j0 k c g m b o) (groupOk g m b o rows) := fun c hc q => by
    refine ev_step (fun _ => by rw [spec_GroupOk.j0]) ?_
    exact ev_pos hc (ev_now (by rw [q]))
  refine ev_ite (fun h1 => ev_ite (fun h2 => ev_some (specIn _ _ _) ?_) (fun h2 => no _ rfl (by simp [groupOk, h2]))) (fun h1 => no _ rfl ?_)
  · cases h3 : inb g 0 100000 with
    | false => exact no _ rfl (by simp [groupOk, h3])
    | true =>
      refine ev_step (fun _ => by rw [spec_GroupOk.j0]) ?_
      refine ev_neg (by simp) (ev_step (fun _ => by rw [spec_GroupOk.j1]) ?_)
      have hl : b.length = m.length := by omega
      refine ev_eq ?_ (specMem g m b o hm hl ho m.length 0 (by omega))
      simp [groupOk, h2, h3, hl]
  · unfold groupOk
    rw [show decide (b.length = m.length) = false from decide_eq_false (by omega)]
    rfl
theorem implMem (g : Int) (m b o : List Int) (rows : Int) (hm : m.length ≤ 1048576) : ∀ (d i : Nat), i + d = m.length →
    Ev (fun k => impl_GroupOk.l0 k rows m (m.length : Int) (i : Int) g m b o) (allMem m d i && (inb g 0 100000 && (decide (b.length = m.length) && (allB b b.length 0 && (decide ((o.length : Int) = rows) && allB o o.length 0))))) := by
  intro d
  induction d with
  | zero =>
    intro i h
    refine ev_step (fun _ => by rw [impl_GroupOk.l0]) ?_
    rw [show allMem m 0 i = true from rfl, Bool.true_and]
    refine ev_neg (by omega) (ev_some (implIn g 0 100000) (ev_and fun _ => ?_))
    by_cases h1 : (b.length : Int) = (m.length : Int)
    · refine ev_pos h1 (ev_eq (by rw [show decide (b.length = m.length) = true from decide_eq_true (by omega), Bool.true_and]) (ev_some (allW b) (ev_and fun _ => ?_)))
      by_cases h2 : (o.length : Int) = rows
      · exact ev_pos h2 (ev_some (allW o) (ev_now (by simp [h2])))
      · exact ev_neg h2 (ev_now (by simp [h2]))
    · exact ev_neg h1 (ev_now (by rw [show decide (b.length = m.length) = false from decide_eq_false (by omega), Bool.false_and]))
  | succ d ih =>
    intro i h
    have e : wrap64 ((i : Int) + 1) = ((i + 1 : Nat) : Int) := by rw [w64 (by omega) (by omega)]; omega
    have hw : 0 < i → wrap64 ((i : Int) - 1) = (i : Int) - 1 := fun q => w64 (by omega) (by omega)
    refine ev_step (fun _ => by rw [impl_GroupOk.l0]) ?_
    refine ev_pos (by omega) (ev_pos (by omega) (ev_pos (by omega) (ev_some (show impl_isClient.f (rd m (i : Int)) = some (inb (rd m (i : Int)) 0 3) from ?_) ?_)))
    · unfold impl_isClient.f
      rw [implIn]
      rfl
    by_cases q1 : inb (rd m (i : Int)) 0 3 = true
    · refine ev_pos q1 ?_
      by_cases q2 : 0 < i
      · refine ev_pos (by omega) ?_
        rw [hw q2, e]
        refine ev_pos (by omega) (ev_pos (by omega) ?_)
        by_cases q3 : rd m ((i : Int) - 1) ≥ rd m (i : Int)
        · refine ev_pos q3 (ev_now ?_)
          have : memAt m i = false := by simp [memAt, q2]; intro _; omega
          simp [allMem, this]
        · refine ev_neg q3 (ev_eq ?_ (ih (i + 1) (by omega)))
          have : memAt m i = true := by simp [memAt, q1]; omega
          simp [allMem, this]
      · refine ev_neg (by omega) ?_
        rw [e]
        refine ev_eq ?_ (ih (i + 1) (by omega))
        have : memAt m i = true := by simp [memAt, q1]; omega
        simp [allMem, this]
    · exact ev_neg q1 (ev_now (by simp [allMem, memAt, q1]))
theorem implGroupOk (g : Int) (m b o : List Int) (rows : Int) (hm : m.length ≤ 1048576) : Ev (fun k => impl_GroupOk.f k g m b o rows) (groupOk g m b o rows) := by
  refine ev_eq ?_ (implMem g m b o rows hm m.length 0 (by omega))
  unfold groupOk
  cases allMem m m.length 0 <;> cases inb g 0 100000 <;> cases decide (b.length = m.length) <;> cases allB b b.length 0 <;> cases decide ((o.length : Int) = rows) <;> cases allB o o.length 0 <;> rfl
end Go.Proofs.Ytgkeapbeogmfjaa.L

/- FnExactGroupOk as a plain statement: proved for all arguments. -/
namespace Go.Proofs.Ytgkeapbeogmfjaa.Pure
open Go.RowKit Go.Proofs.YtgkeapbeogmfjaaW.PrintWords Go.Proofs.YtgkeapbeogmfjaaW.PrintLast Go.Proofs.YtgkeapbeogmfjaaW.PrintMore Go.Proofs.Ytgkeapbeogmfjaa.Q Go.Proofs.Ytgkeapbeogmfjaa.L

theorem FnExactGroupOk (g : Int) (m b o : List Int) (rows : Int) (_ : (Lit.int .i64 g).wf = true) (hm : m.length ≤ maxLen ∧ ∀ y ∈ m, (Lit.int .i64 y).wf = true) (hb : b.length ≤ maxLen ∧ ∀ y ∈ b, (Lit.int .i64 y).wf = true) (ho : o.length ≤ maxLen ∧ ∀ y ∈ o, (Lit.int .i64 y).wf = true) (_ : (Lit.int .i64 rows).wf = true) :
    ∃ k, laws_FnExactGroupOk.f k g m b o rows = some true := by
  refine Ev.rounds (g := fun k => laws_FnExactGroupOk.f k g m b o rows) ?_
  obtain ⟨r, hr, hs⟩ := szGroup g m b o hm.1 hb.1 ho.1
  refine ev_some hr (ev_ite (fun _ => ev_now rfl) (fun h => ?_))
  obtain ⟨h1, h2, h3⟩ := hs (by omega)
  refine ev_step (fun _ => by rw [laws_FnExactGroupOk.j0]) ?_
  refine ev_bind (toGroup g m b o h1 h2 h3) (ev_bind (specGroupOk g m b o rows h1 h3) (ev_bind (toGroup g m b o h1 h2 h3) (ev_bind (implGroupOk g m b o rows h1) (ev_neg (by simp) ?_))))
  refine ev_step (fun _ => by rw [laws_FnExactGroupOk.j1]) ?_
  exact ev_bind (toGroup g m b o h1 h2 h3) (ev_bind (eqGroup g m b o h1 h2 h3) (ev_pos rfl (ev_now rfl)))
end Go.Proofs.Ytgkeapbeogmfjaa.Pure

/- The law FnExactGroupOk: its statement holds, for all arguments. Made by a program of ours out of the plain theorem and the walk. No condition. -/
namespace Go.Proofs.Ytgkeapbeogmfjaa.fnExactGroupOk
open Go.ChangeShapes Go.WideShapes Go.ChangeAt Go.RowKit Go.Proofs.YtgkeapbeogmfjaaW.PrintWords Go.Proofs.Ytgkeapbeogmfjaa.Q Go.Proofs.Ytgkeapbeogmfjaa.R
open Go.ChangeMaps (open_string shut_string)
set_option linter.unusedVariables false
theorem own : ownKnob Try.prog.godebug = none := by kernel_rfl
theorem laidOut : laidOutB Try.prog = true := by kernel_rfl
set_option maxRecDepth 100000 in
theorem lifted (os : Os) (started : os.Started) (H : Type) (enc : TypeId × Value → H) :
    ReturnsInHanded {} Try.checked os 3 .any (Rows.fnExactGroupOkSpec.pre6 enc Try.prog Try.f3 Rows.fnExactGroupOkRow.domain false) (Rows.fnExactGroupOkSpec.post enc Try.prog Try.f3 false true false false) := by
  refine returnsInHanded_of_change_sized (C := Try.checked) own started (by kernel_rfl) Try.func3
    (ChangeSpec.witness6 (enc := enc) (C := Try.checked) false ⟨#[], #[.agg #[.int .i64 0, .slice none 0 0, .slice none 0 0, .slice none 0 0], .int .i64 0], []⟩ 8 (by kernel_rfl) (by kernel_rfl) (by kernel_rfl) (by kernel_rfl)) ?_
  intro W base args ds gs before hval0 hW hcnd hsz0 _
  have hval : ∀ (j : Nat) t v, Try.f3.params[j]? = some t → args[j]? = some v → Value.okWide Try.prog W .any base t v := hval0
  have hW' := hW
  obtain ⟨p, q, hA0, hV, rfl, hfz, hnd⟩ := hW
  have hA : DataW.TrodAll enc Try.prog W 0 (fun _ => true) true Try.f3.params.toList args.toList ds p := hA0
  rw [Try.params3] at hA hval
  obtain ⟨v0, vs0, d0, ds0, p0, q0, hargs, rfl, rfl, h0, r0⟩ := trodAll_cons hA
  obtain ⟨v1, vs1, d1, ds1, p1, q1, rfl, rfl, rfl, h1, r1⟩ := trodAll_cons r0
  obtain ⟨rfl, rfl, rfl⟩ := trodAll_nil r1
  obtain rfl : args = #[v0, v1] := by cases args; simp_all
  obtain ⟨rfl, rfl⟩ := trodVars_none hV
  have k0 := h0
  have lt0 : ∀ x ∈ p0, x.block < W.heap.size := by obtain ⟨m, hm⟩ := k0; exact DataW.trod_lt m _ _ _ hm
  obtain ⟨cs0, rfl, hsz0⟩ := okWide_struct Try.underlying24 (hval 0 24 v0 rfl rfl)
  obtain ⟨fuel0, hf0⟩ := h0
  obtain ⟨a0_0, a0_1, a0_2, a0_3, A0_1, c0_1, A0_2, c0_2, A0_3, c0_3, hz0, w0_0, w0_1, w0_2, w0_3, hc0_1, hr0_1, hc0_2, hr0_2, hc0_3, hr0_3⟩ := open_LGroup (cs := cs0.toList) hf0
  obtain rfl : cs0 = #[.int .i64 a0_0, .slice A0_1 a0_1.length c0_1, .slice A0_2 a0_2.length c0_2, .slice A0_3 a0_3.length c0_3] := by apply Array.toList_inj.mp; exact hz0
  have k1 := h1
  have lt1 : ∀ x ∈ p1, x.block < W.heap.size := by obtain ⟨m, hm⟩ := k1; exact DataW.trod_lt m _ _ _ hm
  obtain ⟨a1, rfl, rfl, rfl, w1⟩ := open_int Try.underlying3 (hval 1 3 v1 rfl rfl) h1
  clear hA0 hval0 hsz0
  obtain ⟨k, hk⟩ := Pure.FnExactGroupOk a0_0 a0_1 a0_2 a0_3 a1 w0_0 w0_1 w0_2 w0_3 w1
  refine (laws_FnExactGroupOk.calls (w := W) (hr0_1 := hr0_1) (hc0_1 := hc0_1) (hr0_2 := hr0_2) (hc0_2 := hc0_2) (hr0_3 := hr0_3) (hc0_3 := hc0_3) (h := hk)).mono fun e W' he => ?_
  obtain ⟨rfl, bel0⟩ := he
  have bel : Below W.heap.size W W' := by first | exact bel0 | exact Drawn0.below bel0
  exact ⟨_, rfl, _, _, _, [], _, [], hW', trodAll_mk1 (shut_bool Try.underlying4 _), (trodAll_cons_mk (Below.trod laidOut (by kernel_rfl) (of_decide_eq_true (by kernel_rfl)) k0 bel lt0) (trodAll_cons_mk (Below.trod laidOut (by kernel_rfl) (of_decide_eq_true (by kernel_rfl)) k1 bel lt1) trodAll_mk0)), rfl, bel.frame _, fun h => by cases h⟩
theorem over : Rows.fnExactGroupOkRow.holds Try.pinned (OpenSpec.ofChange Rows.fnExactGroupOkSpec) :=
  OpenClaim.holds_of_wide 3 Try.f3 rfl rfl rfl rfl rfl rfl rfl ⟨rfl, rfl, rfl, rfl, rfl⟩ rfl rfl rfl rfl rfl (by kernel_rfl) Try.func3 (by kernel_rfl)
    (of_decide_eq_true (by kernel_rfl)) (by unfold Func.isWrapper; first | (rw [if_pos (by decide +kernel)]; kernel_rfl) | (rw [if_neg (by decide +kernel)]; exact ⟨rfl, rfl⟩))
    (fun os started H enc _ => lifted os started H enc)
end Go.Proofs.Ytgkeapbeogmfjaa.fnExactGroupOk
namespace Go.Proofs.Ytgkeapbeogmfjaa
/-- The row, under a short name, for the claim. -/
theorem fnExactGroupOk_holds : Rows.FnExactGroupOkSaid := fnExactGroupOk.over
#print axioms fnExactGroupOk_holds
end Go.Proofs.Ytgkeapbeogmfjaa

