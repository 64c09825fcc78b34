/- The law FnExactMakerPut holds, for all arguments: its row, and behind it the plain side of what the program and the reference compute. Conditions: those that each theorem states; the row has none. -/
import Derived.Test.YtgkeapbeogmfjaaRows
import Derived.Deep.Slices
import Derived.ChangeArms
import Derived.WideShapes
import Derived.WalkKit
import Derived.ProofKit
import Derived.OpenShut
import Derived.ShutString
import Derived.ChangeOld
import Derived.Below
import Derived.SizedLaws
import Derived.Test.YtgkeapbeogmfjaaZXMakerPut0
import Derived.Test.YtgkeapbeogmfjaaZXMakerPuta
import Derived.Test.YtgkeapbeogmfjaaZXMakerPutb
import Derived.Test.YtgkeapbeogmfjaaZXMakerPutc
/- What is read as data is of a printed kind: whole numbers, texts, structs of one-cell fields, slices. For the laws' rows. No condition. -/
namespace Go.Proofs.Ytgkeapbeogmfjaa.R
open Go.RowKit Go.Proofs.YtgkeapbeogmfjaaW.PrintWords Go.WideShapes

/-- Whatever is read as data of type t has cells that are of kind d. -/
def Rd {α : Type} (P : Program) (t : TypeId) (d : Kd α) (wf : α → Prop) : Prop :=
  ∀ (H : Type) (enc : TypeId × Value → H) (W : World) (base : Nat) (spare : Nat → Bool) (held : Bool) (fuel : Nat) (cs : List Value) (x : DataW H × List MemPlace),
    DataW.trod enc P W base spare held fuel t cs = some x → ∃ a, d.K W a cs ∧ wf a
theorem rd_int {P : Program} {t : TypeId} {k : IntKind} (ht : P.underlying t = some (.int k)) : Rd P t (Kd.int k) (fun n => (Lit.int k n).wf = true) := by
  intro H enc W base spare held fuel cs x h
  obtain ⟨n, rfl, _, hw⟩ := DataW.trod_int ht h
  exact ⟨n, rfl, hw⟩
theorem rd_string {P : Program} {t : TypeId} (ht : P.underlying t = some .string) : Rd P t Kd.string (fun s => s.size ≤ maxLen) := by
  intro H enc W base spare held fuel cs x h
  obtain ⟨s, rfl, _, hw⟩ := DataW.trod_string ht h
  exact ⟨s, rfl, hw⟩
theorem rd_slice {α : Type} {P : Program} {t e : TypeId} {d : Kd α} {wf : α → Prop} (ht : P.underlying t = some (.slice e)) (hs : P.cellsOf e = d.sz) (hr : Rd P e d wf) :
    Rd P t (Kd.slice e d) (fun xs => xs.length ≤ maxLen ∧ ∀ x ∈ xs, wf x) := by
  intro H enc W base spare held fuel cs x h
  rcases Go.Deep.open_slice ht h with ⟨rfl, _⟩ | ⟨a, len, cap, m, n, D, Pl, rfl, hb, hl, hm, hmm, _, hx⟩
  · exact ⟨[], ⟨none, 0, rfl, Nat.le_refl _, rfl, by simp, fun h0 => absurd h0 (by simp)⟩, by simp, by simp⟩
  · have hml : len ≤ m := by rw [hmm]; split <;> omega
    have key : ∀ i, i < len → ∃ p : α, wf p ∧ ∃ c, c.length = d.sz ∧ d.K W p c ∧ ∀ q u, c[q]? = some u → W.cell? (a.add (i * d.sz + q)) = some u := by
      intro i hi
      obtain ⟨cs', h1, h2⟩ := hx i (by omega)
      obtain ⟨p, hp, hw⟩ := hr H enc W base spare held n cs' _ h2
      obtain ⟨_, hlen, hc⟩ := World.cells?_some h1
      rw [hs] at hlen hc
      refine ⟨p, hw, cs', hlen, hp, fun q u hq => ?_⟩
      have hq' : q < d.sz := by
        have := (List.getElem?_eq_some_iff.1 hq).1
        omega
      rw [← hq, ← hc q hq', Go.Deep.add_add]
    have key2 : ∃ f : Nat → Option α, ∀ i, i < len → ∃ p, f i = some p ∧ wf p ∧ ∃ c, c.length = d.sz ∧ d.K W p c ∧ ∀ q u, c[q]? = some u → W.cell? (a.add (i * d.sz + q)) = some u := by
      classical
      refine ⟨fun i => if hi : i < len then some (Classical.choose (key i hi)) else none, fun i hi => ⟨Classical.choose (key i hi), by simp [hi], Classical.choose_spec (key i hi)⟩⟩
    obtain ⟨f, hf⟩ := key2
    have hlen : ∀ k, k ≤ len → ((List.range k).filterMap f).length = k ∧ ∀ j, j < k → ((List.range k).filterMap f)[j]? = f j := by
      intro k
      induction k with
      | zero => intro _; exact ⟨rfl, fun j hj => absurd hj (by omega)⟩
      | succ k ih =>
        intro hk
        obtain ⟨i1, i2⟩ := ih (by omega)
        obtain ⟨p, hp, _⟩ := hf k (by omega)
        have e : (List.range (k + 1)).filterMap f = (List.range k).filterMap f ++ [p] := by rw [List.range_succ, List.filterMap_append]; simp [hp]
        refine ⟨by rw [e]; simp [i1], fun j hj => ?_⟩
        rw [e]
        rcases Nat.lt_or_ge j k with h1 | h1
        · rw [List.getElem?_append_left (by omega)]; exact i2 j h1
        · obtain rfl : j = k := by omega
          rw [List.getElem?_append_right (by omega), i1]; simp [hp]
    obtain ⟨i1, i2⟩ := hlen len (Nat.le_refl _)
    refine ⟨(List.range len).filterMap f, ⟨some a, cap, by rw [i1], by rw [i1]; exact hl, rfl, by rw [i1]; simp only [maxLen] at hm; omega, fun _ => ⟨a, rfl, fun j p hj => ?_⟩⟩, by rw [i1]; omega, fun p hp => ?_⟩
    · have hj' : j < len := by
        have := (List.getElem?_eq_some_iff.1 hj).1
        omega
      obtain ⟨p', hp', _, hc⟩ := hf j hj'
      rw [i2 j hj', hp'] at hj
      cases hj
      exact hc
    · obtain ⟨i, hi, hfi⟩ := List.mem_filterMap.1 hp
      obtain ⟨p', hp', hw, _⟩ := hf i (by simpa using hi)
      rw [hp'] at hfi
      cases hfi
      exact hw
/-- The fields of a struct, each of one cell, cell by cell. -/
theorem rd_fields {H : Type} {enc : TypeId × Value → H} {P : Program} {W : World} {base : Nat} {spare : Nat → Bool} {held : Bool} {fuel : Nat} {t : TypeId} {fs : Array Field} {cs : List Value} {x : DataW H × List MemPlace}
    (ht : P.underlying t = some (.struct fs)) (h : DataW.trod enc P W base spare held fuel t cs = some x) : cs.length = P.cellsOf t ∧ ∃ n, ∀ (i : Nat) (f : Field), fs[i]? = some f → ∃ y, DataW.trod enc P W base spare held n f.type ((cs.drop f.offset).take (P.cellsOf f.type)) = some y := by
  obtain ⟨xs, n, _, _, hl, hlen, hf⟩ := DataW.trod_struct ht h
  refine ⟨hl, n, fun i f hi => ?_⟩
  have hi' : i < xs.length := by
    rw [hlen]
    exact (Array.getElem?_eq_some_iff.1 hi).1
  exact ⟨xs[i], by rw [hf i f hi, List.getElem?_eq_getElem hi']⟩
end Go.Proofs.Ytgkeapbeogmfjaa.R

/- How the laws' arguments of this seat are opened: what is read as data has the cells that the walks want. No condition. -/
namespace Go.Proofs.Ytgkeapbeogmfjaa.R
open Go.RowKit Go.Proofs.YtgkeapbeogmfjaaW.PrintWords Go.WideShapes Go.Proofs.Ytgkeapbeogmfjaa.Q
set_option linter.unusedVariables false
theorem cells_2 {cs : List Value} (h : cs.length = 2) : ∃ z0 z1, cs = [z0, z1] := by
  match cs, h with
  | [y0, y1], _ => exact ⟨y0, y1, rfl⟩
theorem cells_4 {cs : List Value} (h : cs.length = 4) : ∃ z0 z1 z2 z3, cs = [z0, z1, z2, z3] := by
  match cs, h with
  | [y0, y1, y2, y3], _ => exact ⟨y0, y1, y2, y3, rfl⟩
theorem cells_5 {cs : List Value} (h : cs.length = 5) : ∃ z0 z1 z2 z3 z4, cs = [z0, z1, z2, z3, z4] := by
  match cs, h with
  | [y0, y1, y2, y3, y4], _ => exact ⟨y0, y1, y2, y3, y4, rfl⟩
theorem open_LGroup {H : Type} {enc : TypeId × Value → H} {W : World} {base : Nat} {spare : Nat → Bool} {held : Bool} {fuel : Nat} {cs : List Value} {x : DataW H × List MemPlace} (h : DataW.trod enc Try.prog W base spare held fuel 24 cs = some x) :
    ∃ (b0 : Int) (b1 : List Int) (b2 : List Int) (b3 : List Int) (A1 : Option Addr) (c1 : Nat) (A2 : Option Addr) (c2 : Nat) (A3 : Option Addr) (c3 : Nat), cs = [.int .i64 b0, .slice A1 b1.length c1, .slice A2 b2.length c2, .slice A3 b3.length c3] ∧ ((Lit.int .i64 b0).wf = true) ∧ (b1.length ≤ maxLen ∧ ∀ y ∈ b1, (Lit.int .i64 y).wf = true) ∧ (b2.length ≤ maxLen ∧ ∀ y ∈ b2, (Lit.int .i64 y).wf = true) ∧ (b3.length ≤ maxLen ∧ ∀ y ∈ b3, (Lit.int .i64 y).wf = true) ∧ b1.length ≤ c1 ∧ Kd.C (Kd.int .i64) W A1 b1.length b1 ∧ b2.length ≤ c2 ∧ Kd.C (Kd.int .i64) W A2 b2.length b2 ∧ b3.length ≤ c3 ∧ Kd.C (Kd.int .i64) W A3 b3.length b3 := by
  obtain ⟨hl, n, hf⟩ := rd_fields Try.underlying24 h
  have hl' : cs.length = 4 := hl.trans (by kernel_rfl)
  obtain ⟨z0, z1, z2, z3, rfl⟩ := cells_4 hl'
  have cc3 : Try.prog.cellsOf 3 = 1 := by kernel_rfl
  have cc22 : Try.prog.cellsOf 22 = 1 := by kernel_rfl
  obtain ⟨e0, he0⟩ := hf 0 _ rfl
  have hc0 : DataW.trod enc Try.prog W base spare held n 3 [z0] = some e0 := by simpa [cc3] using he0
  obtain ⟨b0, hk0, w0⟩ := (rd_int Try.underlying3) H enc W base spare held n [z0] _ hc0
  obtain rfl : z0 = .int .i64 b0 := by injection hk0
  obtain ⟨e1, he1⟩ := hf 1 _ rfl
  have hc1 : DataW.trod enc Try.prog W base spare held n 22 [z1] = some e1 := by simpa [cc22] using he1
  obtain ⟨b1, hk1, w1⟩ := (rd_slice Try.underlying22 (by kernel_rfl) (rd_int Try.underlying3)) H enc W base spare held n [z1] _ hc1
  obtain ⟨A1, c1, hz1, l1, g1⟩ := hk1
  obtain rfl : z1 = .slice A1 b1.length c1 := by injection hz1
  obtain ⟨e2, he2⟩ := hf 2 _ rfl
  have hc2 : DataW.trod enc Try.prog W base spare held n 22 [z2] = some e2 := by simpa [cc22] using he2
  obtain ⟨b2, hk2, w2⟩ := (rd_slice Try.underlying22 (by kernel_rfl) (rd_int Try.underlying3)) H enc W base spare held n [z2] _ hc2
  obtain ⟨A2, c2, hz2, l2, g2⟩ := hk2
  obtain rfl : z2 = .slice A2 b2.length c2 := by injection hz2
  obtain ⟨e3, he3⟩ := hf 3 _ rfl
  have hc3 : DataW.trod enc Try.prog W base spare held n 22 [z3] = some e3 := by simpa [cc22] using he3
  obtain ⟨b3, hk3, w3⟩ := (rd_slice Try.underlying22 (by kernel_rfl) (rd_int Try.underlying3)) H enc W base spare held n [z3] _ hc3
  obtain ⟨A3, c3, hz3, l3, g3⟩ := hk3
  obtain rfl : z3 = .slice A3 b3.length c3 := by injection hz3
  exact ⟨b0, b1, b2, b3, A1, c1, A2, c2, A3, c3, rfl, w0, w1, w2, w3, l1, g1, l2, g2, l3, g3⟩
def WF_LMark (x : S_LMark) : Prop := ((Lit.int .i64 x.f0).wf = true) ∧ ((Lit.int .i64 x.f1).wf = true)
theorem rd_LMark : Rd Try.prog 154 k_LMark WF_LMark := by
  intro H enc W base spare held fuel cs x h
  obtain ⟨hl, n, hf⟩ := rd_fields Try.underlying154 h
  have hl' : cs.length = 2 := hl.trans (by kernel_rfl)
  obtain ⟨z0, z1, rfl⟩ := cells_2 hl'
  have cc3 : Try.prog.cellsOf 3 = 1 := by kernel_rfl
  obtain ⟨e0, he0⟩ := hf 0 _ rfl
  have hc0 : DataW.trod enc Try.prog W base spare held n 3 [z0] = some e0 := by simpa [cc3] using he0
  obtain ⟨b0, hk0, w0⟩ := (rd_int Try.underlying3) H enc W base spare held n [z0] _ hc0
  obtain rfl : z0 = .int .i64 b0 := by injection hk0
  obtain ⟨e1, he1⟩ := hf 1 _ rfl
  have hc1 : DataW.trod enc Try.prog W base spare held n 3 [z1] = some e1 := by simpa [cc3] using he1
  obtain ⟨b1, hk1, w1⟩ := (rd_int Try.underlying3) H enc W base spare held n [z1] _ hc1
  obtain rfl : z1 = .int .i64 b1 := by injection hk1
  exact ⟨⟨b0, b1⟩, k_LMark_mk W ⟨b0, b1⟩ , ⟨w0, w1⟩⟩
theorem open_LMaker {H : Type} {enc : TypeId × Value → H} {W : World} {base : Nat} {spare : Nat → Bool} {held : Bool} {fuel : Nat} {cs : List Value} {x : DataW H × List MemPlace} (h : DataW.trod enc Try.prog W base spare held fuel 48 cs = some x) :
    ∃ (b0 : Int) (b1 : Int) (b2 : Int) (b3 : Int) (b4 : List S_LMark) (A4 : Option Addr) (c4 : Nat), cs = [.int .i64 b0, .int .i64 b1, .int .i64 b2, .int .i64 b3, .slice A4 b4.length c4] ∧ ((Lit.int .i64 b0).wf = true) ∧ ((Lit.int .i64 b1).wf = true) ∧ ((Lit.int .i64 b2).wf = true) ∧ ((Lit.int .i64 b3).wf = true) ∧ (b4.length ≤ maxLen ∧ ∀ y ∈ b4, WF_LMark y) ∧ b4.length ≤ c4 ∧ Kd.C k_LMark W A4 b4.length b4 := by
  obtain ⟨hl, n, hf⟩ := rd_fields Try.underlying48 h
  have hl' : cs.length = 5 := hl.trans (by kernel_rfl)
  obtain ⟨z0, z1, z2, z3, z4, rfl⟩ := cells_5 hl'
  have cc3 : Try.prog.cellsOf 3 = 1 := by kernel_rfl
  have cc46 : Try.prog.cellsOf 46 = 1 := by kernel_rfl
  obtain ⟨e0, he0⟩ := hf 0 _ rfl
  have hc0 : DataW.trod enc Try.prog W base spare held n 3 [z0] = some e0 := by simpa [cc3] using he0
  obtain ⟨b0, hk0, w0⟩ := (rd_int Try.underlying3) H enc W base spare held n [z0] _ hc0
  obtain rfl : z0 = .int .i64 b0 := by injection hk0
  obtain ⟨e1, he1⟩ := hf 1 _ rfl
  have hc1 : DataW.trod enc Try.prog W base spare held n 3 [z1] = some e1 := by simpa [cc3] using he1
  obtain ⟨b1, hk1, w1⟩ := (rd_int Try.underlying3) H enc W base spare held n [z1] _ hc1
  obtain rfl : z1 = .int .i64 b1 := by injection hk1
  obtain ⟨e2, he2⟩ := hf 2 _ rfl
  have hc2 : DataW.trod enc Try.prog W base spare held n 3 [z2] = some e2 := by simpa [cc3] using he2
  obtain ⟨b2, hk2, w2⟩ := (rd_int Try.underlying3) H enc W base spare held n [z2] _ hc2
  obtain rfl : z2 = .int .i64 b2 := by injection hk2
  obtain ⟨e3, he3⟩ := hf 3 _ rfl
  have hc3 : DataW.trod enc Try.prog W base spare held n 3 [z3] = some e3 := by simpa [cc3] using he3
  obtain ⟨b3, hk3, w3⟩ := (rd_int Try.underlying3) H enc W base spare held n [z3] _ hc3
  obtain rfl : z3 = .int .i64 b3 := by injection hk3
  obtain ⟨e4, he4⟩ := hf 4 _ rfl
  have hc4 : DataW.trod enc Try.prog W base spare held n 46 [z4] = some e4 := by simpa [cc46] using he4
  obtain ⟨b4, hk4, w4⟩ := (rd_slice Try.underlying46 (by kernel_rfl) rd_LMark) H enc W base spare held n [z4] _ hc4
  obtain ⟨A4, c4, hz4, l4, g4⟩ := hk4
  obtain rfl : z4 = .slice A4 b4.length c4 := by injection hz4
  exact ⟨b0, b1, b2, b3, b4, A4, c4, rfl, w0, w1, w2, w3, w4, l4, g4⟩
end Go.Proofs.Ytgkeapbeogmfjaa.R

/- Small words for plain proofs: what comes to its answer at enough rounds, one step at a time; whole numbers of 64 bits. No condition. -/
namespace Go.Proofs.Ytgkeapbeogmfjaa.L
open Go.RowKit Go.Proofs.YtgkeapbeogmfjaaW.PrintWords Go.Proofs.YtgkeapbeogmfjaaW.PrintLast Go.Proofs.YtgkeapbeogmfjaaW.PrintMore

theorem ev_pos {α : Type} {c : Prop} [Decidable c] {f g : Nat → Option α} {r : α} (h : c) (k : Ev f r) : Ev (fun n => if c then f n else g n) r := by
  simpa only [if_pos h] using k
theorem ev_neg {α : Type} {c : Prop} [Decidable c] {f g : Nat → Option α} {r : α} (h : ¬ c) (k : Ev g r) : Ev (fun n => if c then f n else g n) r := by
  simpa only [if_neg h] using k
theorem ev_ite {α : Type} {c : Prop} [Decidable c] {f g : Nat → Option α} {r : α} (h : c → Ev f r) (k : ¬ c → Ev g r) : Ev (fun n => if c then f n else g n) r := by
  by_cases hc : c
  · exact ev_pos hc (h hc)
  · exact ev_neg hc (k hc)
theorem ev_some {α β : Type} {g : Option α} {f : Nat → α → Option β} {a : α} {r : β} (h : g = some a) (k : Ev (fun n => f n a) r) : Ev (fun n => g.bind (f n)) r := by
  subst h
  exact k
theorem ev_bind {α β : Type} {g : Nat → Option α} {f : Nat → α → Option β} {a : α} {r : β} (h : Ev g a) (k : Ev (fun n => f n a) r) : Ev (fun n => (g n).bind (f n)) r := Ev.bind h k
/-- one round more -/
theorem ev_step {α : Type} {g f : Nat → Option α} {r : α} (h : ∀ k, g (k + 1) = f k) (k : Ev f r) : Ev g r := Ev.step h k
theorem ev_eq {α : Type} {g : Nat → Option α} {r r' : α} (h : r = r') (k : Ev g r) : Ev g r' := h ▸ k
theorem ev_now {α : Type} {r r' : α} (h : r = r') : Ev (fun _ => some r) r' := h ▸ Ev.now r

theorem wf_i64 {x : Int} (h : (Lit.int .i64 x).wf = true) : -9223372036854775808 ≤ x ∧ x ≤ 9223372036854775807 := by
  simp [Lit.wf, IntKind.min, IntKind.max, IntKind.bits, IntKind.signed] at h
  exact h
theorem wf_u8 {x : Int} (h : (Lit.int .u8 x).wf = true) : 0 ≤ x ∧ x ≤ 255 := by
  simp [Lit.wf, IntKind.min, IntKind.max, IntKind.bits, IntKind.signed] at h
  exact h
theorem w64 {x : Int} (h0 : -9223372036854775808 ≤ x) (h1 : x ≤ 9223372036854775807) : wrap64 x = x := by
  unfold wrap64
  omega
theorem rd_eq (xs : List Int) (i : Nat) (h : i < xs.length) : rd xs (i : Int) = xs[i] := by
  simp [rd, List.getD_eq_getElem?_getD, h]
end Go.Proofs.Ytgkeapbeogmfjaa.L

/- The plain side of the laws' own words on marks and makers, and of MakerAsk: program and reference come to one answer. Condition: lists of at most 2^20 elements behind the size's test. -/
namespace Go.Proofs.Ytgkeapbeogmfjaa.L
open Go.RowKit Go.Proofs.YtgkeapbeogmfjaaW.PrintWords Go.Proofs.YtgkeapbeogmfjaaW.PrintLast Go.Proofs.YtgkeapbeogmfjaaW.PrintMore Go.Proofs.Ytgkeapbeogmfjaa.Q

/-- a mark of the laws as one of the program -/
def mark (x : S_LMark) : S_Mark := ⟨x.f0, x.f1⟩
def marks (l : List S_LMark) : List S_Mark := l.map mark
theorem marks_len (l : List S_LMark) : (marks l).length = l.length := by simp [marks]
theorem rdLM (l : List S_LMark) (i : Nat) (h : i < l.length) : rd_LMark l (i : Int) = l[i] := by
  simp [rd_LMark, List.getD_eq_getElem?_getD, h]
theorem rdM (l : List S_Mark) (i : Nat) (h : i < l.length) : rd_Mark l (i : Int) = l[i] := by
  simp [rd_Mark, List.getD_eq_getElem?_getD, h]
theorem toMarkS_l0 (l : List S_LMark) (hn : l.length ≤ 1048576) : ∀ (d i : Nat) (acc : List S_Mark), i + d = l.length → acc.length = l.length → Ev (fun k => laws_toMarkS.l0 k l acc (i : Int)) (acc.take i ++ (marks l).drop i) := by
  intro d
  induction d with
  | zero =>
    intro i acc h1 h2
    refine ev_step (fun _ => rfl) (ev_neg (by omega) (ev_now ?_))
    simp [List.take_of_length_le (show acc.length ≤ i by omega), List.drop_eq_nil_of_le (show (marks l).length ≤ i by rw [marks_len]; omega)]
  | succ d ih =>
    intro i acc h1 h2
    refine ev_step (fun _ => rfl) (ev_pos (by omega) (ev_pos (by omega) (ev_some rfl (ev_pos (by omega) ?_))))
    have e : wrap64 ((i : Int) + 1) = ((i + 1 : Nat) : Int) := by rw [w64 (by omega) (by omega)]; omega
    rw [e, Int.toNat_natCast, rdLM l i (by omega)]
    refine ev_eq ?_ (ih (i + 1) (acc.set i (mark l[i])) (by omega) (by simp; omega))
    rw [List.take_succ_eq_append_getElem (by simp; omega), List.take_set_of_le (Nat.le_refl i), List.getElem_set_self, List.drop_eq_getElem_cons (show i < (marks l).length by rw [marks_len]; omega)]
    simp [marks]
theorem toMarkS (l : List S_LMark) (hn : l.length ≤ 1048576) : Ev (fun k => laws_toMarkS.f k l) (marks l) := by
  refine ev_pos (by omega) (ev_pos (by omega) ?_)
  have := toMarkS_l0 l hn l.length 0 (List.replicate ((l.length : Int)).toNat z_Mark) (by omega) (by simp)
  simpa using this
theorem toMaker (a b c d : Int) (l : List S_LMark) (hn : l.length ≤ 1048576) : Ev (fun k => laws_toMaker.f k a b c d l) (a, b, c, d, marks l) := ev_bind (toMarkS l hn) (ev_now rfl)
theorem eqMark (x : S_Mark) : laws_eqMark.f x.f0 x.f1 x.f0 x.f1 = some true := by simp [laws_eqMark.f]
theorem eqMarkS_l0 (l : List S_Mark) (hn : l.length ≤ 2097152) : ∀ (d i : Nat), i + d = l.length → Ev (fun k => laws_eqMarkS.l0 k l l (i : Int)) true := by
  intro d
  induction d with
  | zero => intro i h; exact ev_step (fun _ => rfl) (ev_neg (by omega) (ev_now rfl))
  | succ d ih =>
    intro i h
    refine ev_step (fun _ => rfl) (ev_pos (by omega) (ev_pos (by omega) (ev_pos (by omega) (ev_some (eqMark _) (ev_pos rfl ?_)))))
    have e : wrap64 ((i : Int) + 1) = ((i + 1 : Nat) : Int) := by rw [w64 (by omega) (by omega)]; omega
    rw [e]
    exact ih (i + 1) (by omega)
theorem eqMarkS (l : List S_Mark) (hn : l.length ≤ 2097152) : Ev (fun k => laws_eqMarkS.f k l l) true := ev_pos rfl (eqMarkS_l0 l hn l.length 0 (by omega))
theorem eqMaker (a b c d : Int) (l : List S_Mark) (hn : l.length ≤ 2097152) : Ev (fun k => laws_eqMaker.f k a b c d l a b c d l) true := ev_pos rfl (ev_pos rfl (ev_pos rfl (ev_pos rfl (ev_bind (eqMarkS l hn) (ev_pos rfl (ev_now rfl))))))
theorem szMaker (a b c d : Int) (l : List S_LMark) (hl : l.length ≤ maxLen) : ∃ r, laws_szMaker.f a b c d l 1048576 = some r ∧ (0 ≤ r → l.length ≤ 1048576) := by
  unfold maxLen at hl
  have e : wrap64 (1048576 - (l.length : Int)) = 1048576 - (l.length : Int) := w64 (by omega) (by omega)
  unfold laws_szMaker.f laws_szMarkS.f
  rw [e]
  by_cases h : 1048576 - (l.length : Int) < 0
  · rw [if_pos h]
    exact ⟨-1, rfl, fun q => absurd q (by omega)⟩
  · rw [if_neg h]
    refine ⟨1048576 - (l.length : Int), ?_, fun _ => by omega⟩
    show (if 1048576 - (l.length : Int) < 0 then some (-1) else some (1048576 - (l.length : Int))) = _
    rw [if_neg h]
/-- an answer of MakerAsk out of its window -/
def askOf : Option S_Mark → Int × Int
  | some x => (1, x.f1)
  | none => (2, 0)
theorem specAsk_row (q a b c e0 : Int) (l : List S_Mark) (hn : l.length ≤ 1048576) : ∀ (d i : Nat), i + d = l.length → Ev (fun k => spec_MakerAsk.l0 k q (i : Int) a b c e0 l) (askOf ((l.drop i).find? fun x => decide (x.f0 = q))) := by
  intro d
  induction d with
  | zero =>
    intro i h
    refine ev_step (fun _ => rfl) (ev_neg (by omega) (ev_now ?_))
    rw [List.drop_eq_nil_of_le (by omega)]
    rfl
  | succ d ih =>
    intro i h
    have e : wrap64 ((i : Int) + 1) = ((i + 1 : Nat) : Int) := by rw [w64 (by omega) (by omega)]; omega
    refine ev_step (fun _ => rfl) (ev_pos (by omega) (ev_pos (by omega) ?_))
    rw [rdM l i (by omega), List.drop_eq_getElem_cons (show i < l.length by omega), e]
    refine ev_ite (fun q => ev_now ?_) (fun q => ?_)
    · rw [List.find?_cons_of_pos (by simpa using q)]
      rfl
    · rw [List.find?_cons_of_neg (by simpa using q)]
      exact ih (i + 1) (by omega)
theorem implAsk_row (q : Int) (l : List S_Mark) (hn : l.length ≤ 1048576) : ∀ (d i : Nat), i + d = l.length → Ev (fun k => impl_MakerAsk.l0 k q l (l.length : Int) (i : Int)) (askOf ((l.drop i).find? fun x => decide (x.f0 = q))) := by
  intro d
  induction d with
  | zero =>
    intro i h
    refine ev_step (fun _ => rfl) (ev_neg (by omega) (ev_now ?_))
    rw [List.drop_eq_nil_of_le (by omega)]
    rfl
  | succ d ih =>
    intro i h
    have e : wrap64 ((i : Int) + 1) = ((i + 1 : Nat) : Int) := by rw [w64 (by omega) (by omega)]; omega
    refine ev_step (fun _ => rfl) (ev_pos (by omega) (ev_pos (by omega) (ev_pos (by omega) ?_)))
    rw [rdM l i (by omega), List.drop_eq_getElem_cons (show i < l.length by omega), e]
    refine ev_ite (fun q => ev_now ?_) (fun q => ?_)
    · rw [List.find?_cons_of_pos (by simpa using q)]
      rfl
    · rw [List.find?_cons_of_neg (by simpa using q)]
      exact ih (i + 1) (by omega)
/-- what MakerAsk comes to -/
def makerAsk (ep last : Int) (l : List S_Mark) (e q : Int) : Int × Int :=
  if e < ep then (4, 0) else if e > ep then (if q = 0 then (0, 0) else (3, 0)) else if q > last then (if wrap64 (q - 1) = last then (0, 0) else (3, 0)) else askOf (l.find? fun x => decide (x.f0 = q))
theorem specMakerAsk (a b ep last e q : Int) (l : List S_Mark) (hn : l.length ≤ 1048576) : Ev (fun k => spec_MakerAsk.f k a b ep last l e q) (makerAsk ep last l e q) := by
  unfold makerAsk
  refine ev_ite (fun h => ev_now (by rw [if_pos h])) (fun h => ?_)
  rw [if_neg h]
  refine ev_ite (fun h2 => ?_) (fun h2 => ?_)
  · rw [if_pos h2]
    exact ev_ite (fun h3 => ev_now (by rw [if_pos h3])) (fun h3 => ev_now (by rw [if_neg h3]))
  · rw [if_neg h2]
    refine ev_ite (fun h3 => ?_) (fun h3 => ?_)
    · rw [if_pos h3]
      exact ev_ite (fun h4 => ev_now (by rw [if_pos h4])) (fun h4 => ev_now (by rw [if_neg h4]))
    · rw [if_neg h3]
      simpa using specAsk_row q a b ep last l hn l.length 0 (by omega)
theorem implMakerAsk (a b ep last e q : Int) (l : List S_Mark) (hn : l.length ≤ 1048576) : Ev (fun k => impl_MakerAsk.f k a b ep last l e q) (makerAsk ep last l e q) := by
  unfold makerAsk
  refine ev_ite (fun h => ev_now (by rw [if_pos h])) (fun h => ?_)
  rw [if_neg h]
  refine ev_ite (fun h2 => ?_) (fun h2 => ?_)
  · rw [if_pos h2]
    refine ev_step (fun _ => by rw [impl_MakerAsk.j0]) ?_
    refine ev_ite (fun h3 => ev_now ?_) (fun h3 => ev_pos h2 (ev_now ?_))
    · rw [if_pos (by simpa using h3)]
    · rw [if_neg (by simpa using h3)]
  · rw [if_neg h2]
    refine ev_step (fun _ => by rw [impl_MakerAsk.j0]) ?_
    refine ev_neg (by simp) (ev_neg h2 ?_)
    refine ev_ite (fun h3 => ?_) (fun h3 => ?_)
    · rw [if_pos h3]
      refine ev_step (fun _ => by rw [impl_MakerAsk.j1]) ?_
      refine ev_ite (fun h4 => ev_now ?_) (fun h4 => ev_pos h3 (ev_now ?_))
      · rw [if_pos (by simpa using h4)]
      · rw [if_neg (by simpa using h4)]
    · rw [if_neg h3]
      refine ev_step (fun _ => by rw [impl_MakerAsk.j1]) ?_
      refine ev_neg (by simp) (ev_neg h3 ?_)
      refine ev_step (fun _ => by rw [impl_MakerAsk.j2]) ?_
      simpa using implAsk_row q l hn l.length 0 (by omega)
end Go.Proofs.Ytgkeapbeogmfjaa.L

/- The plain side of MakerPut and of the laws' marks on makers: program and reference come to one answer. Condition: lists of at most 2^20 elements. -/
namespace Go.Proofs.Ytgkeapbeogmfjaa.L
open Go.RowKit Go.Proofs.YtgkeapbeogmfjaaW.PrintWords Go.Proofs.YtgkeapbeogmfjaaW.PrintLast Go.Proofs.YtgkeapbeogmfjaaW.PrintMore Go.Proofs.Ytgkeapbeogmfjaa.Q

theorem specCopyMaker (a b c d : Int) (l : List S_Mark) (hn : l.length ≤ 2097152) : spec_l4Copy.f a b c d l = some (a, b, c, d, l) := by
  unfold spec_l4Copy.f
  simp only [Option.bind_some, List.length_nil, List.nil_append]
  rw [if_pos (by omega)]
theorem implCopyMaker (a b c d : Int) (l : List S_Mark) (hn : l.length ≤ 2097152) : impl_copyMaker.f a b c d l = some (a, b, c, d, l) := by
  unfold impl_copyMaker.f
  simp only [List.length_nil, List.nil_append]
  rw [if_pos (by omega)]
/-- the last marks of a window -/
def keepW (w : Int) (l : List S_Mark) : List S_Mark := l.drop ((l.length : Int) - mx w 0).toNat
/-- what MakerPut comes to -/
def makerPut (a b ep last : Int) (l : List S_Mark) (w e q o : Int) : Int × Int × Int × Int × List S_Mark :=
  if (makerAsk ep last l e q).1 = 0 then (a, b, e, q, keepW w ((if e > ep then [] else l) ++ [⟨q, o⟩])) else (a, b, ep, last, l)
theorem keepW_len (w : Int) (l : List S_Mark) : (keepW w l).length ≤ l.length := by simp [keepW]
theorem makerPut_len (a b ep last : Int) (l : List S_Mark) (w e q o : Int) : (makerPut a b ep last l w e q o).2.2.2.2.length ≤ l.length + 1 := by
  unfold makerPut
  split
  · refine Nat.le_trans (keepW_len _ _) ?_
    split <;> simp
  · exact Nat.le_succ _
theorem specMax (w : Int) : spec_l1Max.f w 0 = some (mx w 0) := by
  unfold spec_l1Max.f mx
  by_cases h : w > 0
  · rw [if_pos h, if_neg (by omega)]
  · rw [if_neg h]
    by_cases h2 : w < 0
    · rw [if_pos h2]
    · rw [if_neg h2, show w = 0 by omega]
theorem mx_bounds (w : Int) (hw : w ≤ 9223372036854775807) : 0 ≤ mx w 0 ∧ mx w 0 ≤ 9223372036854775807 := by
  unfold mx
  split <;> omega
theorem specPut_j1 (a b x y : Int) (l : List S_Mark) (w e q o : Int) (hw : w ≤ 9223372036854775807) (hn : l.length ≤ 1048576) : Ev (fun k => spec_MakerPut.j1 k w e q o a b x y l) (a, b, e, q, keepW w (l ++ [⟨q, o⟩])) := by
  have hm := mx_bounds w hw
  have hl : (l ++ [(⟨q, o⟩ : S_Mark)]).length = l.length + 1 := by simp
  refine ev_step (fun _ => by rw [spec_MakerPut.j1]) ?_
  refine ev_pos (by omega) (ev_some rfl (ev_some (specMax w) ?_))
  by_cases h : ((l ++ [(⟨q, o⟩ : S_Mark)]).length : Int) > mx w 0
  · have e1 : wrap64 (((l ++ [(⟨q, o⟩ : S_Mark)]).length : Int) - mx w 0) = ((l ++ [(⟨q, o⟩ : S_Mark)]).length : Int) - mx w 0 := w64 (by omega) (by omega)
    refine ev_pos h (ev_some rfl (ev_some (specMax w) ?_))
    rw [e1]
    refine ev_pos (by omega) (ev_pos (by omega) (ev_some rfl (ev_pos ?_ (ev_now rfl))))
    simp only [List.length_nil, List.length_drop, List.length_append, List.length_singleton]
    omega
  · refine ev_neg h (ev_now ?_)
    unfold keepW
    rw [show (((l ++ [(⟨q, o⟩ : S_Mark)]).length : Int) - mx w 0).toNat = 0 by omega, List.drop_zero]
theorem specMakerPut (a b ep last : Int) (l : List S_Mark) (w e q o : Int) (hw : w ≤ 9223372036854775807) (hn : l.length ≤ 1048576) : Ev (fun k => spec_MakerPut.f k a b ep last l w e q o) (makerPut a b ep last l w e q o) := by
  refine ev_some (specCopyMaker a b ep last l (by omega)) (ev_bind (specMakerAsk a b ep last e q l hn) ?_)
  unfold makerPut
  by_cases h : (makerAsk ep last l e q).1 = 0
  · rw [if_pos h]
    refine ev_pos h (ev_step (fun _ => by rw [spec_MakerPut.j0]) ?_)
    by_cases h2 : e > ep
    · rw [show (if e > ep then ([] : List S_Mark) else l) = [] from if_pos h2]
      exact ev_pos h2 (specPut_j1 a b ep last [] w e q o hw (by simp))
    · rw [show (if e > ep then ([] : List S_Mark) else l) = l from if_neg h2]
      exact ev_neg h2 (specPut_j1 a b ep last l w e q o hw hn)
  · rw [if_neg h]
    exact ev_neg h (ev_now rfl)
theorem implDrop (l : List S_Mark) (w : Int) (hw : w ≤ 9223372036854775807) (hn : l.length ≤ 1048577) :
    0 ≤ mx (wrap64 ((l.length : Int) - mx w 0)) 0 ∧ mx (wrap64 ((l.length : Int) - mx w 0)) 0 ≤ (l.length : Int) ∧ l.drop (mx (wrap64 ((l.length : Int) - mx w 0)) 0).toNat = keepW w l := by
  have hm := mx_bounds w hw
  have e1 : wrap64 ((l.length : Int) - mx w 0) = (l.length : Int) - mx w 0 := w64 (by omega) (by omega)
  rw [e1]
  have e2 : (mx ((l.length : Int) - mx w 0) 0).toNat = ((l.length : Int) - mx w 0).toNat := by
    generalize (l.length : Int) - mx w 0 = z
    unfold mx
    split <;> omega
  refine ⟨?_, ?_, ?_⟩
  · generalize (l.length : Int) - mx w 0 = z
    unfold mx
    split <;> omega
  · have : (l.length : Int) - mx w 0 ≤ (l.length : Int) := by omega
    generalize (l.length : Int) - mx w 0 = z at this
    unfold mx
    split <;> omega
  · rw [e2]
    rfl
theorem implMakerPut (a b ep last : Int) (l : List S_Mark) (w e q o : Int) (hw : w ≤ 9223372036854775807) (hn : l.length ≤ 1048576) : Ev (fun k => impl_MakerPut.f k a b ep last l w e q o) (makerPut a b ep last l w e q o) := by
  have hl : (l ++ [(⟨q, o⟩ : S_Mark)]).length = l.length + 1 := by simp
  have hl0 : (([] : List S_Mark) ++ [(⟨q, o⟩ : S_Mark)]).length = 1 := by simp
  refine ev_some (implCopyMaker a b ep last l (by omega)) (ev_bind (implMakerAsk a b ep last e q l hn) ?_)
  unfold makerPut
  by_cases h : (makerAsk ep last l e q).1 = 0
  · rw [if_pos h]
    refine ev_pos h (ev_step (fun _ => by rw [impl_MakerPut.j0]) ?_)
    by_cases h2 : e > ep
    · rw [show (if e > ep then ([] : List S_Mark) else l) = [] from if_pos h2]
      obtain ⟨d0, d1, d2⟩ := implDrop (([] : List S_Mark) ++ [(⟨q, o⟩ : S_Mark)]) w hw (by omega)
      refine ev_pos h2 (ev_pos (by simp) (ev_some rfl (ev_pos d0 (ev_pos d1 (ev_some rfl (ev_pos ?_ (ev_now ?_)))))))
      · simp only [List.length_nil, List.length_drop]
        omega
      · rw [d2]
        rfl
    · rw [show (if e > ep then ([] : List S_Mark) else l) = l from if_neg h2]
      obtain ⟨d0, d1, d2⟩ := implDrop (l ++ [(⟨q, o⟩ : S_Mark)]) w hw (by omega)
      refine ev_neg h2 (ev_pos (show l.length < 8796093022208 by omega) (ev_some rfl (ev_pos d0 (ev_pos d1 (ev_some rfl (ev_pos ?_ (ev_now ?_)))))))
      · simp only [List.length_nil, List.length_drop]
        omega
      · rw [d2]
        rfl
  · rw [if_neg h]
    exact ev_neg h (ev_now rfl)
/-- marks with numbers from q on -/
def mMark (q : Nat) : S_Mark := ⟨(q : Int), ((q + 1 : Nat) : Int)⟩
def mMarks (q n : Nat) : List S_Mark := (List.range n).map fun i => mMark (q + 2 * i)
theorem mMarks_len (q n : Nat) : (mMarks q n).length = n := by simp [mMarks]
theorem wM (x : Nat) (h : x ≤ 4611686018427387904) : wrap64 ((x : Int) + 1) = ((x + 1 : Nat) : Int) := by
  rw [w64 (by omega) (by omega)]
  omega
theorem rdMSet (l : List S_Mark) (i : Nat) (h : i < l.length) (x : S_Mark) : rd_Mark (l.set i x) (i : Int) = x := by
  rw [rdM _ i (by simpa using h)]
  simp
theorem markMarkS_l0 (q n : Nat) (hq : q ≤ 1073741824) (hn : n ≤ 2097152) : ∀ (d i : Nat) (acc : List S_Mark), i + d = n → acc.length = n → acc.take i = mMarks q i →
    Ev (fun k => laws_markMarkS.l0 k acc ((q + 2 * i : Nat) : Int) (i : Int)) (((q + 2 * n : Nat) : Int), mMarks q n) := by
  intro d
  induction d with
  | zero =>
    intro i acc h1 h2 h3
    obtain rfl : i = n := by omega
    refine ev_step (fun _ => by rw [laws_markMarkS.l0]) ?_
    refine ev_neg (by omega) (ev_now ?_)
    rw [← h3, List.take_of_length_le (by omega)]
  | succ d ih =>
    intro i acc h1 h2 h3
    have hi : i < acc.length := by omega
    have hz : (i : Int) < (acc.length : Int) := by omega
    have h0 : (0 : Int) ≤ (i : Int) := by omega
    have hlast := ih (i + 1) (acc.set i (mMark (q + 2 * i))) (by omega) (by simp; omega) (by
      rw [List.take_succ_eq_append_getElem (by simp; omega), List.take_set_of_le (Nat.le_refl i), List.getElem_set_self, h3]
      simp [mMarks, List.range_succ])
    have w1 := wM (q + 2 * i) (by omega)
    have w2 := wM (q + 2 * i + 1) (by omega)
    have e := wM i (by omega)
    clear hq hn h1 h2 h3 ih
    refine ev_step (fun _ => by rw [laws_markMarkS.l0]) ?_
    refine ev_pos hz (ev_pos h0 ?_)
    simp only [w1, w2, e, Int.toNat_natCast]
    refine ev_some rfl ?_
    simp only [List.set_set, rdMSet _ i hi]
    exact hlast
theorem markMarkS (q : Nat) (l : List S_Mark) (hq : q ≤ 1073741824) (hn : l.length ≤ 2097152) : Ev (fun k => laws_markMarkS.f k l (q : Int)) (((q + 2 * l.length : Nat) : Int), mMarks q l.length) := markMarkS_l0 q l.length hq hn l.length 0 l (by omega) rfl (by simp [mMarks])
theorem heldMarkS_l0 (q n : Nat) (hq : q ≤ 1073741824) (hn : n ≤ 2097152) : ∀ (d i : Nat), i + d = n → Ev (fun k => laws_heldMarkS.l0 k (mMarks q n) ((q + 2 * i : Nat) : Int) (i : Int)) ((q + 2 * n : Nat) : Int) := by
  intro d
  induction d with
  | zero =>
    intro i h1
    obtain rfl : i = n := by omega
    refine ev_step (fun _ => by rw [laws_heldMarkS.l0]) ?_
    exact ev_neg (by rw [mMarks_len]; omega) (ev_now rfl)
  | succ d ih =>
    intro i h1
    have hl : (i : Int) < ((mMarks q n).length : Int) := by rw [mMarks_len]; omega
    have h0 : (0 : Int) ≤ (i : Int) := by omega
    have hr : rd_Mark (mMarks q n) (i : Int) = mMark (q + 2 * i) := by
      rw [rdM _ i (by omega)]
      simp [mMarks]
    have hlast := ih (i + 1) (by omega)
    have w1 := wM (q + 2 * i) (by omega)
    have w2 := wM (q + 2 * i + 1) (by omega)
    have e := wM i (by omega)
    clear hq hn h1 ih
    refine ev_step (fun _ => by rw [laws_heldMarkS.l0]) ?_
    refine ev_pos hl (ev_pos h0 ?_)
    rw [hr]
    refine ev_pos rfl ?_
    rw [w1, w2, e]
    exact ev_pos rfl hlast
theorem heldMarkS (q n : Nat) (hq : q ≤ 1073741824) (hn : n ≤ 2097152) : Ev (fun k => laws_heldMarkS.f k (mMarks q n) (q : Int)) ((q + 2 * n : Nat) : Int) := heldMarkS_l0 q n hq hn n 0 (by omega)
theorem markMaker (q : Nat) (a b c d : Int) (l : List S_Mark) (hq : q ≤ 1073741824) (hn : l.length ≤ 2097152) : Ev (fun k => laws_markMaker.f k a b c d l (q : Int)) (((q + 2 * l.length : Nat) : Int), mMarks q l.length) := ev_bind (markMarkS q l hq hn) (ev_now rfl)
theorem heldMaker (q : Nat) (a b c d : Int) (n : Nat) (hq : q ≤ 1073741824) (hn : n ≤ 2097152) : Ev (fun k => laws_heldMaker.f k a b c d (mMarks q n) (q : Int)) ((q + 2 * n : Nat) : Int) := ev_bind (heldMarkS q n hq hn) (ev_neg (by omega) (ev_now rfl))
end Go.Proofs.Ytgkeapbeogmfjaa.L

/- FnExactMakerPut as a plain statement: proved for all arguments. -/
namespace Go.Proofs.Ytgkeapbeogmfjaa.Pure
open Go.RowKit Go.Proofs.YtgkeapbeogmfjaaW.PrintWords Go.Proofs.YtgkeapbeogmfjaaW.PrintLast Go.Proofs.YtgkeapbeogmfjaaW.PrintMore Go.Proofs.Ytgkeapbeogmfjaa.Q Go.Proofs.Ytgkeapbeogmfjaa.L Go.Proofs.Ytgkeapbeogmfjaa.R

theorem FnExactMakerPut (a b c d : Int) (l : List S_LMark) (w e q o : Int) (_ : (Lit.int .i64 a).wf = true) (_ : (Lit.int .i64 b).wf = true) (_ : (Lit.int .i64 c).wf = true) (_ : (Lit.int .i64 d).wf = true) (hl : l.length ≤ maxLen ∧ ∀ y ∈ l, WF_LMark y) (hw : (Lit.int .i64 w).wf = true) (_ : (Lit.int .i64 e).wf = true) (_ : (Lit.int .i64 q).wf = true) (_ : (Lit.int .i64 o).wf = true) :
    ∃ k, laws_FnExactMakerPut.f k a b c d l w e q o = some true := by
  have hw := (wf_i64 hw).2
  refine Ev.rounds (g := fun k => laws_FnExactMakerPut.f k a b c d l w e q o) ?_
  obtain ⟨r, hr, hs⟩ := szMaker a b c d l hl.1
  refine ev_some hr (ev_ite (fun _ => ev_now rfl) (fun h => ?_))
  have hn := hs (by omega)
  have hi : (marks l).length ≤ 1048576 := by rw [marks_len]; exact hn
  have e1 := specMakerPut a b c d (marks l) w e q o hw hi
  have e2 := implMakerPut a b c d (marks l) w e q o hw hi
  have hlen := makerPut_len a b c d (marks l) w e q o
  generalize makerPut a b c d (marks l) w e q o = v at e1 e2 hlen
  obtain ⟨va, vb, vc, vd, vl⟩ := v
  have hv : vl.length ≤ 2097152 := by have : vl.length ≤ (marks l).length + 1 := hlen; omega
  have mk0 : Ev (fun k => laws_markMaker.f k a b c d (marks l) 1) _ := markMaker 1 a b c d (marks l) (by omega) (by omega)
  have mk1 : Ev (fun k => laws_markMaker.f k va vb vc vd vl 1) _ := markMaker 1 va vb vc vd vl (by omega) hv
  have hd1 : Ev (fun k => laws_heldMaker.f k va vb vc vd (mMarks 1 vl.length) 1) _ := heldMaker 1 va vb vc vd vl.length (by omega) hv
  refine ev_step (fun _ => by rw [laws_FnExactMakerPut.j0]) ?_
  refine ev_bind (toMaker a b c d l hn) (ev_bind e1 (ev_bind (toMaker a b c d l hn) (ev_bind e2 (ev_bind (eqMaker va vb vc vd vl hv) (ev_pos rfl ?_)))))
  refine ev_step (fun _ => by rw [laws_FnExactMakerPut.j1]) ?_
  refine ev_bind (toMaker a b c d l hn) (ev_bind (eqMaker a b c d (marks l) (by omega)) (ev_pos rfl ?_))
  refine ev_step (fun _ => by rw [laws_FnExactMakerPut.j2]) ?_
  refine ev_bind mk0 (ev_neg (by omega) (ev_bind (eqMaker va vb vc vd vl hv) ?_))
  refine ev_step (fun _ => by rw [laws_FnExactMakerPut.j3]) ?_
  refine ev_neg (by simp) (ev_step (fun _ => by rw [laws_FnExactMakerPut.j4]) ?_)
  refine ev_bind mk1 (ev_bind hd1 (ev_neg (by omega) ?_))
  refine ev_step (fun _ => by rw [laws_FnExactMakerPut.j5]) ?_
  refine ev_pos rfl (ev_step (fun _ => by rw [laws_FnExactMakerPut.j6]) ?_)
  refine ev_bind (toMaker a b c d l hn) (ev_bind e2 (ev_bind (eqMaker va vb vc vd vl hv) (ev_pos rfl ?_)))
  refine ev_step (fun _ => by rw [laws_FnExactMakerPut.j7]) ?_
  exact ev_bind hd1 (ev_neg (by omega) (ev_pos rfl (ev_now rfl)))
end Go.Proofs.Ytgkeapbeogmfjaa.Pure

/- The law FnExactMakerPut: its statement holds, for all arguments. Made by a program of ours out of the plain theorem and the walk. No condition. -/
namespace Go.Proofs.Ytgkeapbeogmfjaa.fnExactMakerPut
open Go.ChangeShapes Go.WideShapes Go.ChangeAt Go.RowKit Go.Proofs.YtgkeapbeogmfjaaW.PrintWords Go.Proofs.Ytgkeapbeogmfjaa.Q Go.Proofs.Ytgkeapbeogmfjaa.R
open Go.ChangeMaps (open_string shut_string)
set_option linter.unusedVariables false
theorem own : ownKnob Try.prog.godebug = none := by kernel_rfl
theorem laidOut : laidOutB Try.prog = true := by kernel_rfl
set_option maxRecDepth 100000 in
theorem lifted (os : Os) (started : os.Started) (H : Type) (enc : TypeId × Value → H) :
    ReturnsInHanded {} Try.checked os 13 .any (Rows.fnExactMakerPutSpec.pre6 enc Try.prog Try.f13 Rows.fnExactMakerPutRow.domain false) (Rows.fnExactMakerPutSpec.post enc Try.prog Try.f13 false true false false) := by
  refine returnsInHanded_of_change_sized (C := Try.checked) own started (by kernel_rfl) Try.func13
    (ChangeSpec.witness6 (enc := enc) (C := Try.checked) false ⟨#[], #[.agg #[.int .i64 0, .int .i64 0, .int .i64 0, .int .i64 0, .slice none 0 0], .int .i64 0, .int .i64 0, .int .i64 0, .int .i64 0], []⟩ 8 (by kernel_rfl) (by kernel_rfl) (by kernel_rfl) (by kernel_rfl)) ?_
  intro W base args ds gs before hval0 hW hcnd hsz0 _
  have hval : ∀ (j : Nat) t v, Try.f13.params[j]? = some t → args[j]? = some v → Value.okWide Try.prog W .any base t v := hval0
  have hW' := hW
  obtain ⟨p, q, hA0, hV, rfl, hfz, hnd⟩ := hW
  have hA : DataW.TrodAll enc Try.prog W 0 (fun _ => true) true Try.f13.params.toList args.toList ds p := hA0
  rw [Try.params13] at hA hval
  obtain ⟨v0, vs0, d0, ds0, p0, q0, hargs, rfl, rfl, h0, r0⟩ := trodAll_cons hA
  obtain ⟨v1, vs1, d1, ds1, p1, q1, rfl, rfl, rfl, h1, r1⟩ := trodAll_cons r0
  obtain ⟨v2, vs2, d2, ds2, p2, q2, rfl, rfl, rfl, h2, r2⟩ := trodAll_cons r1
  obtain ⟨v3, vs3, d3, ds3, p3, q3, rfl, rfl, rfl, h3, r3⟩ := trodAll_cons r2
  obtain ⟨v4, vs4, d4, ds4, p4, q4, rfl, rfl, rfl, h4, r4⟩ := trodAll_cons r3
  obtain ⟨rfl, rfl, rfl⟩ := trodAll_nil r4
  obtain rfl : args = #[v0, v1, v2, v3, v4] := by cases args; simp_all
  obtain ⟨rfl, rfl⟩ := trodVars_none hV
  have k0 := h0
  have lt0 : ∀ x ∈ p0, x.block < W.heap.size := by obtain ⟨m, hm⟩ := k0; exact DataW.trod_lt m _ _ _ hm
  obtain ⟨cs0, rfl, hsz0⟩ := okWide_struct Try.underlying48 (hval 0 48 v0 rfl rfl)
  obtain ⟨fuel0, hf0⟩ := h0
  obtain ⟨a0_0, a0_1, a0_2, a0_3, a0_4, A0_4, c0_4, hz0, w0_0, w0_1, w0_2, w0_3, w0_4, hc0_4, hr0_4⟩ := open_LMaker (cs := cs0.toList) hf0
  obtain rfl : cs0 = #[.int .i64 a0_0, .int .i64 a0_1, .int .i64 a0_2, .int .i64 a0_3, .slice A0_4 a0_4.length c0_4] := by apply Array.toList_inj.mp; exact hz0
  have k1 := h1
  have lt1 : ∀ x ∈ p1, x.block < W.heap.size := by obtain ⟨m, hm⟩ := k1; exact DataW.trod_lt m _ _ _ hm
  obtain ⟨a1, rfl, rfl, rfl, w1⟩ := open_int Try.underlying3 (hval 1 3 v1 rfl rfl) h1
  have k2 := h2
  have lt2 : ∀ x ∈ p2, x.block < W.heap.size := by obtain ⟨m, hm⟩ := k2; exact DataW.trod_lt m _ _ _ hm
  obtain ⟨a2, rfl, rfl, rfl, w2⟩ := open_int Try.underlying3 (hval 2 3 v2 rfl rfl) h2
  have k3 := h3
  have lt3 : ∀ x ∈ p3, x.block < W.heap.size := by obtain ⟨m, hm⟩ := k3; exact DataW.trod_lt m _ _ _ hm
  obtain ⟨a3, rfl, rfl, rfl, w3⟩ := open_int Try.underlying3 (hval 3 3 v3 rfl rfl) h3
  have k4 := h4
  have lt4 : ∀ x ∈ p4, x.block < W.heap.size := by obtain ⟨m, hm⟩ := k4; exact DataW.trod_lt m _ _ _ hm
  obtain ⟨a4, rfl, rfl, rfl, w4⟩ := open_int Try.underlying3 (hval 4 3 v4 rfl rfl) h4
  clear hA0 hval0 hsz0
  obtain ⟨k, hk⟩ := Pure.FnExactMakerPut a0_0 a0_1 a0_2 a0_3 a0_4 a1 a2 a3 a4 w0_0 w0_1 w0_2 w0_3 w0_4 w1 w2 w3 w4
  refine (laws_FnExactMakerPut.calls (w := W) (hr0_4 := hr0_4) (hc0_4 := hc0_4) (h := hk)).mono fun e W' he => ?_
  obtain ⟨rfl, bel0⟩ := he
  have bel : Below W.heap.size W W' := by first | exact bel0 | exact Drawn0.below bel0
  exact ⟨_, rfl, _, _, _, [], _, [], hW', trodAll_mk1 (shut_bool Try.underlying4 _), (trodAll_cons_mk (Below.trod laidOut (by kernel_rfl) (of_decide_eq_true (by kernel_rfl)) k0 bel lt0) (trodAll_cons_mk (Below.trod laidOut (by kernel_rfl) (of_decide_eq_true (by kernel_rfl)) k1 bel lt1) (trodAll_cons_mk (Below.trod laidOut (by kernel_rfl) (of_decide_eq_true (by kernel_rfl)) k2 bel lt2) (trodAll_cons_mk (Below.trod laidOut (by kernel_rfl) (of_decide_eq_true (by kernel_rfl)) k3 bel lt3) (trodAll_cons_mk (Below.trod laidOut (by kernel_rfl) (of_decide_eq_true (by kernel_rfl)) k4 bel lt4) trodAll_mk0))))), rfl, bel.frame _, fun h => by cases h⟩
theorem over : Rows.fnExactMakerPutRow.holds Try.pinned (OpenSpec.ofChange Rows.fnExactMakerPutSpec) :=
  OpenClaim.holds_of_wide 13 Try.f13 rfl rfl rfl rfl rfl rfl rfl ⟨rfl, rfl, rfl, rfl, rfl⟩ rfl rfl rfl rfl rfl (by kernel_rfl) Try.func13 (by kernel_rfl)
    (of_decide_eq_true (by kernel_rfl)) (by unfold Func.isWrapper; first | (rw [if_pos (by decide +kernel)]; kernel_rfl) | (rw [if_neg (by decide +kernel)]; exact ⟨rfl, rfl⟩))
    (fun os started H enc _ => lifted os started H enc)
end Go.Proofs.Ytgkeapbeogmfjaa.fnExactMakerPut
namespace Go.Proofs.Ytgkeapbeogmfjaa
/-- The row, under a short name, for the claim. -/
theorem fnExactMakerPut_holds : Rows.FnExactMakerPutSaid := fnExactMakerPut.over
#print axioms fnExactMakerPut_holds
end Go.Proofs.Ytgkeapbeogmfjaa

