/- The law FnFenced holds, for all arguments: its row, and behind it the plain side of what the program and the reference compute. Conditions: those that each theorem states; the row has none. -/
import Derived.Test.YtgkeapbeogmfjaaRows
import Derived.Deep.Slices
import Derived.ChangeArms
import Derived.WideShapes
import Derived.Laws.BitsLemmas
import Derived.WalkKit
import Derived.ProofKit
import Derived.OpenShut
import Derived.ShutString
import Derived.ChangeOld
import Derived.Below
import Derived.SizedLaws
import Derived.Test.YtgkeapbeogmfjaaZFnFenced0
import Derived.Test.YtgkeapbeogmfjaaZFnFenceda
import Derived.Test.YtgkeapbeogmfjaaZFnFencedb
import Derived.Test.YtgkeapbeogmfjaaZFnFencedc
import Derived.Test.YtgkeapbeogmfjaaZFnFencedd
/- What is read as data is of a printed kind: whole numbers, texts, structs of one-cell fields, slices. For the laws' rows. No condition. -/
namespace Go.Proofs.Ytgkeapbeogmfjaa.R
open Go.RowKit Go.Proofs.YtgkeapbeogmfjaaW.PrintWords Go.WideShapes

/-- Whatever is read as data of type t has cells that are of kind d. -/
def Rd {α : Type} (P : Program) (t : TypeId) (d : Kd α) (wf : α → Prop) : Prop :=
  ∀ (H : Type) (enc : TypeId × Value → H) (W : World) (base : Nat) (spare : Nat → Bool) (held : Bool) (fuel : Nat) (cs : List Value) (x : DataW H × List MemPlace),
    DataW.trod enc P W base spare held fuel t cs = some x → ∃ a, d.K W a cs ∧ wf a
theorem rd_int {P : Program} {t : TypeId} {k : IntKind} (ht : P.underlying t = some (.int k)) : Rd P t (Kd.int k) (fun n => (Lit.int k n).wf = true) := by
  intro H enc W base spare held fuel cs x h
  obtain ⟨n, rfl, _, hw⟩ := DataW.trod_int ht h
  exact ⟨n, rfl, hw⟩
theorem rd_string {P : Program} {t : TypeId} (ht : P.underlying t = some .string) : Rd P t Kd.string (fun s => s.size ≤ maxLen) := by
  intro H enc W base spare held fuel cs x h
  obtain ⟨s, rfl, _, hw⟩ := DataW.trod_string ht h
  exact ⟨s, rfl, hw⟩
theorem rd_slice {α : Type} {P : Program} {t e : TypeId} {d : Kd α} {wf : α → Prop} (ht : P.underlying t = some (.slice e)) (hs : P.cellsOf e = d.sz) (hr : Rd P e d wf) :
    Rd P t (Kd.slice e d) (fun xs => xs.length ≤ maxLen ∧ ∀ x ∈ xs, wf x) := by
  intro H enc W base spare held fuel cs x h
  rcases Go.Deep.open_slice ht h with ⟨rfl, _⟩ | ⟨a, len, cap, m, n, D, Pl, rfl, hb, hl, hm, hmm, _, hx⟩
  · exact ⟨[], ⟨none, 0, rfl, Nat.le_refl _, rfl, by simp, fun h0 => absurd h0 (by simp)⟩, by simp, by simp⟩
  · have hml : len ≤ m := by rw [hmm]; split <;> omega
    have key : ∀ i, i < len → ∃ p : α, wf p ∧ ∃ c, c.length = d.sz ∧ d.K W p c ∧ ∀ q u, c[q]? = some u → W.cell? (a.add (i * d.sz + q)) = some u := by
      intro i hi
      obtain ⟨cs', h1, h2⟩ := hx i (by omega)
      obtain ⟨p, hp, hw⟩ := hr H enc W base spare held n cs' _ h2
      obtain ⟨_, hlen, hc⟩ := World.cells?_some h1
      rw [hs] at hlen hc
      refine ⟨p, hw, cs', hlen, hp, fun q u hq => ?_⟩
      have hq' : q < d.sz := by
        have := (List.getElem?_eq_some_iff.1 hq).1
        omega
      rw [← hq, ← hc q hq', Go.Deep.add_add]
    have key2 : ∃ f : Nat → Option α, ∀ i, i < len → ∃ p, f i = some p ∧ wf p ∧ ∃ c, c.length = d.sz ∧ d.K W p c ∧ ∀ q u, c[q]? = some u → W.cell? (a.add (i * d.sz + q)) = some u := by
      classical
      refine ⟨fun i => if hi : i < len then some (Classical.choose (key i hi)) else none, fun i hi => ⟨Classical.choose (key i hi), by simp [hi], Classical.choose_spec (key i hi)⟩⟩
    obtain ⟨f, hf⟩ := key2
    have hlen : ∀ k, k ≤ len → ((List.range k).filterMap f).length = k ∧ ∀ j, j < k → ((List.range k).filterMap f)[j]? = f j := by
      intro k
      induction k with
      | zero => intro _; exact ⟨rfl, fun j hj => absurd hj (by omega)⟩
      | succ k ih =>
        intro hk
        obtain ⟨i1, i2⟩ := ih (by omega)
        obtain ⟨p, hp, _⟩ := hf k (by omega)
        have e : (List.range (k + 1)).filterMap f = (List.range k).filterMap f ++ [p] := by rw [List.range_succ, List.filterMap_append]; simp [hp]
        refine ⟨by rw [e]; simp [i1], fun j hj => ?_⟩
        rw [e]
        rcases Nat.lt_or_ge j k with h1 | h1
        · rw [List.getElem?_append_left (by omega)]; exact i2 j h1
        · obtain rfl : j = k := by omega
          rw [List.getElem?_append_right (by omega), i1]; simp [hp]
    obtain ⟨i1, i2⟩ := hlen len (Nat.le_refl _)
    refine ⟨(List.range len).filterMap f, ⟨some a, cap, by rw [i1], by rw [i1]; exact hl, rfl, by rw [i1]; simp only [maxLen] at hm; omega, fun _ => ⟨a, rfl, fun j p hj => ?_⟩⟩, by rw [i1]; omega, fun p hp => ?_⟩
    · have hj' : j < len := by
        have := (List.getElem?_eq_some_iff.1 hj).1
        omega
      obtain ⟨p', hp', _, hc⟩ := hf j hj'
      rw [i2 j hj', hp'] at hj
      cases hj
      exact hc
    · obtain ⟨i, hi, hfi⟩ := List.mem_filterMap.1 hp
      obtain ⟨p', hp', hw, _⟩ := hf i (by simpa using hi)
      rw [hp'] at hfi
      cases hfi
      exact hw
/-- The fields of a struct, each of one cell, cell by cell. -/
theorem rd_fields {H : Type} {enc : TypeId × Value → H} {P : Program} {W : World} {base : Nat} {spare : Nat → Bool} {held : Bool} {fuel : Nat} {t : TypeId} {fs : Array Field} {cs : List Value} {x : DataW H × List MemPlace}
    (ht : P.underlying t = some (.struct fs)) (h : DataW.trod enc P W base spare held fuel t cs = some x) : cs.length = P.cellsOf t ∧ ∃ n, ∀ (i : Nat) (f : Field), fs[i]? = some f → ∃ y, DataW.trod enc P W base spare held n f.type ((cs.drop f.offset).take (P.cellsOf f.type)) = some y := by
  obtain ⟨xs, n, _, _, hl, hlen, hf⟩ := DataW.trod_struct ht h
  refine ⟨hl, n, fun i f hi => ?_⟩
  have hi' : i < xs.length := by
    rw [hlen]
    exact (Array.getElem?_eq_some_iff.1 hi).1
  exact ⟨xs[i], by rw [hf i f hi, List.getElem?_eq_getElem hi']⟩
end Go.Proofs.Ytgkeapbeogmfjaa.R

/- How the laws' arguments of this seat are opened: what is read as data has the cells that the walks want. No condition. -/
namespace Go.Proofs.Ytgkeapbeogmfjaa.R
open Go.RowKit Go.Proofs.YtgkeapbeogmfjaaW.PrintWords Go.WideShapes Go.Proofs.Ytgkeapbeogmfjaa.Q
set_option linter.unusedVariables false
theorem cells_2 {cs : List Value} (h : cs.length = 2) : ∃ z0 z1, cs = [z0, z1] := by
  match cs, h with
  | [y0, y1], _ => exact ⟨y0, y1, rfl⟩
theorem cells_4 {cs : List Value} (h : cs.length = 4) : ∃ z0 z1 z2 z3, cs = [z0, z1, z2, z3] := by
  match cs, h with
  | [y0, y1, y2, y3], _ => exact ⟨y0, y1, y2, y3, rfl⟩
theorem cells_5 {cs : List Value} (h : cs.length = 5) : ∃ z0 z1 z2 z3 z4, cs = [z0, z1, z2, z3, z4] := by
  match cs, h with
  | [y0, y1, y2, y3, y4], _ => exact ⟨y0, y1, y2, y3, y4, rfl⟩
theorem open_LGroup {H : Type} {enc : TypeId × Value → H} {W : World} {base : Nat} {spare : Nat → Bool} {held : Bool} {fuel : Nat} {cs : List Value} {x : DataW H × List MemPlace} (h : DataW.trod enc Try.prog W base spare held fuel 24 cs = some x) :
    ∃ (b0 : Int) (b1 : List Int) (b2 : List Int) (b3 : List Int) (A1 : Option Addr) (c1 : Nat) (A2 : Option Addr) (c2 : Nat) (A3 : Option Addr) (c3 : Nat), cs = [.int .i64 b0, .slice A1 b1.length c1, .slice A2 b2.length c2, .slice A3 b3.length c3] ∧ ((Lit.int .i64 b0).wf = true) ∧ (b1.length ≤ maxLen ∧ ∀ y ∈ b1, (Lit.int .i64 y).wf = true) ∧ (b2.length ≤ maxLen ∧ ∀ y ∈ b2, (Lit.int .i64 y).wf = true) ∧ (b3.length ≤ maxLen ∧ ∀ y ∈ b3, (Lit.int .i64 y).wf = true) ∧ b1.length ≤ c1 ∧ Kd.C (Kd.int .i64) W A1 b1.length b1 ∧ b2.length ≤ c2 ∧ Kd.C (Kd.int .i64) W A2 b2.length b2 ∧ b3.length ≤ c3 ∧ Kd.C (Kd.int .i64) W A3 b3.length b3 := by
  obtain ⟨hl, n, hf⟩ := rd_fields Try.underlying24 h
  have hl' : cs.length = 4 := hl.trans (by kernel_rfl)
  obtain ⟨z0, z1, z2, z3, rfl⟩ := cells_4 hl'
  have cc3 : Try.prog.cellsOf 3 = 1 := by kernel_rfl
  have cc22 : Try.prog.cellsOf 22 = 1 := by kernel_rfl
  obtain ⟨e0, he0⟩ := hf 0 _ rfl
  have hc0 : DataW.trod enc Try.prog W base spare held n 3 [z0] = some e0 := by simpa [cc3] using he0
  obtain ⟨b0, hk0, w0⟩ := (rd_int Try.underlying3) H enc W base spare held n [z0] _ hc0
  obtain rfl : z0 = .int .i64 b0 := by injection hk0
  obtain ⟨e1, he1⟩ := hf 1 _ rfl
  have hc1 : DataW.trod enc Try.prog W base spare held n 22 [z1] = some e1 := by simpa [cc22] using he1
  obtain ⟨b1, hk1, w1⟩ := (rd_slice Try.underlying22 (by kernel_rfl) (rd_int Try.underlying3)) H enc W base spare held n [z1] _ hc1
  obtain ⟨A1, c1, hz1, l1, g1⟩ := hk1
  obtain rfl : z1 = .slice A1 b1.length c1 := by injection hz1
  obtain ⟨e2, he2⟩ := hf 2 _ rfl
  have hc2 : DataW.trod enc Try.prog W base spare held n 22 [z2] = some e2 := by simpa [cc22] using he2
  obtain ⟨b2, hk2, w2⟩ := (rd_slice Try.underlying22 (by kernel_rfl) (rd_int Try.underlying3)) H enc W base spare held n [z2] _ hc2
  obtain ⟨A2, c2, hz2, l2, g2⟩ := hk2
  obtain rfl : z2 = .slice A2 b2.length c2 := by injection hz2
  obtain ⟨e3, he3⟩ := hf 3 _ rfl
  have hc3 : DataW.trod enc Try.prog W base spare held n 22 [z3] = some e3 := by simpa [cc22] using he3
  obtain ⟨b3, hk3, w3⟩ := (rd_slice Try.underlying22 (by kernel_rfl) (rd_int Try.underlying3)) H enc W base spare held n [z3] _ hc3
  obtain ⟨A3, c3, hz3, l3, g3⟩ := hk3
  obtain rfl : z3 = .slice A3 b3.length c3 := by injection hz3
  exact ⟨b0, b1, b2, b3, A1, c1, A2, c2, A3, c3, rfl, w0, w1, w2, w3, l1, g1, l2, g2, l3, g3⟩
def WF_LMark (x : S_LMark) : Prop := ((Lit.int .i64 x.f0).wf = true) ∧ ((Lit.int .i64 x.f1).wf = true)
theorem rd_LMark : Rd Try.prog 154 k_LMark WF_LMark := by
  intro H enc W base spare held fuel cs x h
  obtain ⟨hl, n, hf⟩ := rd_fields Try.underlying154 h
  have hl' : cs.length = 2 := hl.trans (by kernel_rfl)
  obtain ⟨z0, z1, rfl⟩ := cells_2 hl'
  have cc3 : Try.prog.cellsOf 3 = 1 := by kernel_rfl
  obtain ⟨e0, he0⟩ := hf 0 _ rfl
  have hc0 : DataW.trod enc Try.prog W base spare held n 3 [z0] = some e0 := by simpa [cc3] using he0
  obtain ⟨b0, hk0, w0⟩ := (rd_int Try.underlying3) H enc W base spare held n [z0] _ hc0
  obtain rfl : z0 = .int .i64 b0 := by injection hk0
  obtain ⟨e1, he1⟩ := hf 1 _ rfl
  have hc1 : DataW.trod enc Try.prog W base spare held n 3 [z1] = some e1 := by simpa [cc3] using he1
  obtain ⟨b1, hk1, w1⟩ := (rd_int Try.underlying3) H enc W base spare held n [z1] _ hc1
  obtain rfl : z1 = .int .i64 b1 := by injection hk1
  exact ⟨⟨b0, b1⟩, k_LMark_mk W ⟨b0, b1⟩ , ⟨w0, w1⟩⟩
theorem open_LMaker {H : Type} {enc : TypeId × Value → H} {W : World} {base : Nat} {spare : Nat → Bool} {held : Bool} {fuel : Nat} {cs : List Value} {x : DataW H × List MemPlace} (h : DataW.trod enc Try.prog W base spare held fuel 48 cs = some x) :
    ∃ (b0 : Int) (b1 : Int) (b2 : Int) (b3 : Int) (b4 : List S_LMark) (A4 : Option Addr) (c4 : Nat), cs = [.int .i64 b0, .int .i64 b1, .int .i64 b2, .int .i64 b3, .slice A4 b4.length c4] ∧ ((Lit.int .i64 b0).wf = true) ∧ ((Lit.int .i64 b1).wf = true) ∧ ((Lit.int .i64 b2).wf = true) ∧ ((Lit.int .i64 b3).wf = true) ∧ (b4.length ≤ maxLen ∧ ∀ y ∈ b4, WF_LMark y) ∧ b4.length ≤ c4 ∧ Kd.C k_LMark W A4 b4.length b4 := by
  obtain ⟨hl, n, hf⟩ := rd_fields Try.underlying48 h
  have hl' : cs.length = 5 := hl.trans (by kernel_rfl)
  obtain ⟨z0, z1, z2, z3, z4, rfl⟩ := cells_5 hl'
  have cc3 : Try.prog.cellsOf 3 = 1 := by kernel_rfl
  have cc46 : Try.prog.cellsOf 46 = 1 := by kernel_rfl
  obtain ⟨e0, he0⟩ := hf 0 _ rfl
  have hc0 : DataW.trod enc Try.prog W base spare held n 3 [z0] = some e0 := by simpa [cc3] using he0
  obtain ⟨b0, hk0, w0⟩ := (rd_int Try.underlying3) H enc W base spare held n [z0] _ hc0
  obtain rfl : z0 = .int .i64 b0 := by injection hk0
  obtain ⟨e1, he1⟩ := hf 1 _ rfl
  have hc1 : DataW.trod enc Try.prog W base spare held n 3 [z1] = some e1 := by simpa [cc3] using he1
  obtain ⟨b1, hk1, w1⟩ := (rd_int Try.underlying3) H enc W base spare held n [z1] _ hc1
  obtain rfl : z1 = .int .i64 b1 := by injection hk1
  obtain ⟨e2, he2⟩ := hf 2 _ rfl
  have hc2 : DataW.trod enc Try.prog W base spare held n 3 [z2] = some e2 := by simpa [cc3] using he2
  obtain ⟨b2, hk2, w2⟩ := (rd_int Try.underlying3) H enc W base spare held n [z2] _ hc2
  obtain rfl : z2 = .int .i64 b2 := by injection hk2
  obtain ⟨e3, he3⟩ := hf 3 _ rfl
  have hc3 : DataW.trod enc Try.prog W base spare held n 3 [z3] = some e3 := by simpa [cc3] using he3
  obtain ⟨b3, hk3, w3⟩ := (rd_int Try.underlying3) H enc W base spare held n [z3] _ hc3
  obtain rfl : z3 = .int .i64 b3 := by injection hk3
  obtain ⟨e4, he4⟩ := hf 4 _ rfl
  have hc4 : DataW.trod enc Try.prog W base spare held n 46 [z4] = some e4 := by simpa [cc46] using he4
  obtain ⟨b4, hk4, w4⟩ := (rd_slice Try.underlying46 (by kernel_rfl) rd_LMark) H enc W base spare held n [z4] _ hc4
  obtain ⟨A4, c4, hz4, l4, g4⟩ := hk4
  obtain rfl : z4 = .slice A4 b4.length c4 := by injection hz4
  exact ⟨b0, b1, b2, b3, b4, A4, c4, rfl, w0, w1, w2, w3, w4, l4, g4⟩
end Go.Proofs.Ytgkeapbeogmfjaa.R

/- Small words for plain proofs: what comes to its answer at enough rounds, one step at a time; whole numbers of 64 bits. No condition. -/
namespace Go.Proofs.Ytgkeapbeogmfjaa.L
open Go.RowKit Go.Proofs.YtgkeapbeogmfjaaW.PrintWords Go.Proofs.YtgkeapbeogmfjaaW.PrintLast Go.Proofs.YtgkeapbeogmfjaaW.PrintMore

theorem ev_pos {α : Type} {c : Prop} [Decidable c] {f g : Nat → Option α} {r : α} (h : c) (k : Ev f r) : Ev (fun n => if c then f n else g n) r := by
  simpa only [if_pos h] using k
theorem ev_neg {α : Type} {c : Prop} [Decidable c] {f g : Nat → Option α} {r : α} (h : ¬ c) (k : Ev g r) : Ev (fun n => if c then f n else g n) r := by
  simpa only [if_neg h] using k
theorem ev_ite {α : Type} {c : Prop} [Decidable c] {f g : Nat → Option α} {r : α} (h : c → Ev f r) (k : ¬ c → Ev g r) : Ev (fun n => if c then f n else g n) r := by
  by_cases hc : c
  · exact ev_pos hc (h hc)
  · exact ev_neg hc (k hc)
theorem ev_some {α β : Type} {g : Option α} {f : Nat → α → Option β} {a : α} {r : β} (h : g = some a) (k : Ev (fun n => f n a) r) : Ev (fun n => g.bind (f n)) r := by
  subst h
  exact k
theorem ev_bind {α β : Type} {g : Nat → Option α} {f : Nat → α → Option β} {a : α} {r : β} (h : Ev g a) (k : Ev (fun n => f n a) r) : Ev (fun n => (g n).bind (f n)) r := Ev.bind h k
/-- one round more -/
theorem ev_step {α : Type} {g f : Nat → Option α} {r : α} (h : ∀ k, g (k + 1) = f k) (k : Ev f r) : Ev g r := Ev.step h k
theorem ev_eq {α : Type} {g : Nat → Option α} {r r' : α} (h : r = r') (k : Ev g r) : Ev g r' := h ▸ k
theorem ev_now {α : Type} {r r' : α} (h : r = r') : Ev (fun _ => some r) r' := h ▸ Ev.now r

theorem wf_i64 {x : Int} (h : (Lit.int .i64 x).wf = true) : -9223372036854775808 ≤ x ∧ x ≤ 9223372036854775807 := by
  simp [Lit.wf, IntKind.min, IntKind.max, IntKind.bits, IntKind.signed] at h
  exact h
theorem wf_u8 {x : Int} (h : (Lit.int .u8 x).wf = true) : 0 ≤ x ∧ x ≤ 255 := by
  simp [Lit.wf, IntKind.min, IntKind.max, IntKind.bits, IntKind.signed] at h
  exact h
theorem w64 {x : Int} (h0 : -9223372036854775808 ≤ x) (h1 : x ≤ 9223372036854775807) : wrap64 x = x := by
  unfold wrap64
  omega
theorem rd_eq (xs : List Int) (i : Nat) (h : i < xs.length) : rd xs (i : Int) = xs[i] := by
  simp [rd, List.getD_eq_getElem?_getD, h]
end Go.Proofs.Ytgkeapbeogmfjaa.L

/- The plain side of the laws' own words on marks and makers, and of MakerAsk: program and reference come to one answer. Condition: lists of at most 2^20 elements behind the size's test. -/
namespace Go.Proofs.Ytgkeapbeogmfjaa.L
open Go.RowKit Go.Proofs.YtgkeapbeogmfjaaW.PrintWords Go.Proofs.YtgkeapbeogmfjaaW.PrintLast Go.Proofs.YtgkeapbeogmfjaaW.PrintMore Go.Proofs.Ytgkeapbeogmfjaa.Q

/-- a mark of the laws as one of the program -/
def mark (x : S_LMark) : S_Mark := ⟨x.f0, x.f1⟩
def marks (l : List S_LMark) : List S_Mark := l.map mark
theorem marks_len (l : List S_LMark) : (marks l).length = l.length := by simp [marks]
theorem rdLM (l : List S_LMark) (i : Nat) (h : i < l.length) : rd_LMark l (i : Int) = l[i] := by
  simp [rd_LMark, List.getD_eq_getElem?_getD, h]
theorem rdM (l : List S_Mark) (i : Nat) (h : i < l.length) : rd_Mark l (i : Int) = l[i] := by
  simp [rd_Mark, List.getD_eq_getElem?_getD, h]
theorem toMarkS_l0 (l : List S_LMark) (hn : l.length ≤ 1048576) : ∀ (d i : Nat) (acc : List S_Mark), i + d = l.length → acc.length = l.length → Ev (fun k => laws_toMarkS.l0 k l acc (i : Int)) (acc.take i ++ (marks l).drop i) := by
  intro d
  induction d with
  | zero =>
    intro i acc h1 h2
    refine ev_step (fun _ => rfl) (ev_neg (by omega) (ev_now ?_))
    simp [List.take_of_length_le (show acc.length ≤ i by omega), List.drop_eq_nil_of_le (show (marks l).length ≤ i by rw [marks_len]; omega)]
  | succ d ih =>
    intro i acc h1 h2
    refine ev_step (fun _ => rfl) (ev_pos (by omega) (ev_pos (by omega) (ev_some rfl (ev_pos (by omega) ?_))))
    have e : wrap64 ((i : Int) + 1) = ((i + 1 : Nat) : Int) := by rw [w64 (by omega) (by omega)]; omega
    rw [e, Int.toNat_natCast, rdLM l i (by omega)]
    refine ev_eq ?_ (ih (i + 1) (acc.set i (mark l[i])) (by omega) (by simp; omega))
    rw [List.take_succ_eq_append_getElem (by simp; omega), List.take_set_of_le (Nat.le_refl i), List.getElem_set_self, List.drop_eq_getElem_cons (show i < (marks l).length by rw [marks_len]; omega)]
    simp [marks]
theorem toMarkS (l : List S_LMark) (hn : l.length ≤ 1048576) : Ev (fun k => laws_toMarkS.f k l) (marks l) := by
  refine ev_pos (by omega) (ev_pos (by omega) ?_)
  have := toMarkS_l0 l hn l.length 0 (List.replicate ((l.length : Int)).toNat z_Mark) (by omega) (by simp)
  simpa using this
theorem toMaker (a b c d : Int) (l : List S_LMark) (hn : l.length ≤ 1048576) : Ev (fun k => laws_toMaker.f k a b c d l) (a, b, c, d, marks l) := ev_bind (toMarkS l hn) (ev_now rfl)
theorem eqMark (x : S_Mark) : laws_eqMark.f x.f0 x.f1 x.f0 x.f1 = some true := by simp [laws_eqMark.f]
theorem eqMarkS_l0 (l : List S_Mark) (hn : l.length ≤ 2097152) : ∀ (d i : Nat), i + d = l.length → Ev (fun k => laws_eqMarkS.l0 k l l (i : Int)) true := by
  intro d
  induction d with
  | zero => intro i h; exact ev_step (fun _ => rfl) (ev_neg (by omega) (ev_now rfl))
  | succ d ih =>
    intro i h
    refine ev_step (fun _ => rfl) (ev_pos (by omega) (ev_pos (by omega) (ev_pos (by omega) (ev_some (eqMark _) (ev_pos rfl ?_)))))
    have e : wrap64 ((i : Int) + 1) = ((i + 1 : Nat) : Int) := by rw [w64 (by omega) (by omega)]; omega
    rw [e]
    exact ih (i + 1) (by omega)
theorem eqMarkS (l : List S_Mark) (hn : l.length ≤ 2097152) : Ev (fun k => laws_eqMarkS.f k l l) true := ev_pos rfl (eqMarkS_l0 l hn l.length 0 (by omega))
theorem eqMaker (a b c d : Int) (l : List S_Mark) (hn : l.length ≤ 2097152) : Ev (fun k => laws_eqMaker.f k a b c d l a b c d l) true := ev_pos rfl (ev_pos rfl (ev_pos rfl (ev_pos rfl (ev_bind (eqMarkS l hn) (ev_pos rfl (ev_now rfl))))))
theorem szMaker (a b c d : Int) (l : List S_LMark) (hl : l.length ≤ maxLen) : ∃ r, laws_szMaker.f a b c d l 1048576 = some r ∧ (0 ≤ r → l.length ≤ 1048576) := by
  unfold maxLen at hl
  have e : wrap64 (1048576 - (l.length : Int)) = 1048576 - (l.length : Int) := w64 (by omega) (by omega)
  unfold laws_szMaker.f laws_szMarkS.f
  rw [e]
  by_cases h : 1048576 - (l.length : Int) < 0
  · rw [if_pos h]
    exact ⟨-1, rfl, fun q => absurd q (by omega)⟩
  · rw [if_neg h]
    refine ⟨1048576 - (l.length : Int), ?_, fun _ => by omega⟩
    show (if 1048576 - (l.length : Int) < 0 then some (-1) else some (1048576 - (l.length : Int))) = _
    rw [if_neg h]
/-- an answer of MakerAsk out of its window -/
def askOf : Option S_Mark → Int × Int
  | some x => (1, x.f1)
  | none => (2, 0)
theorem specAsk_row (q a b c e0 : Int) (l : List S_Mark) (hn : l.length ≤ 1048576) : ∀ (d i : Nat), i + d = l.length → Ev (fun k => spec_MakerAsk.l0 k q (i : Int) a b c e0 l) (askOf ((l.drop i).find? fun x => decide (x.f0 = q))) := by
  intro d
  induction d with
  | zero =>
    intro i h
    refine ev_step (fun _ => rfl) (ev_neg (by omega) (ev_now ?_))
    rw [List.drop_eq_nil_of_le (by omega)]
    rfl
  | succ d ih =>
    intro i h
    have e : wrap64 ((i : Int) + 1) = ((i + 1 : Nat) : Int) := by rw [w64 (by omega) (by omega)]; omega
    refine ev_step (fun _ => rfl) (ev_pos (by omega) (ev_pos (by omega) ?_))
    rw [rdM l i (by omega), List.drop_eq_getElem_cons (show i < l.length by omega), e]
    refine ev_ite (fun q => ev_now ?_) (fun q => ?_)
    · rw [List.find?_cons_of_pos (by simpa using q)]
      rfl
    · rw [List.find?_cons_of_neg (by simpa using q)]
      exact ih (i + 1) (by omega)
theorem implAsk_row (q : Int) (l : List S_Mark) (hn : l.length ≤ 1048576) : ∀ (d i : Nat), i + d = l.length → Ev (fun k => impl_MakerAsk.l0 k q l (l.length : Int) (i : Int)) (askOf ((l.drop i).find? fun x => decide (x.f0 = q))) := by
  intro d
  induction d with
  | zero =>
    intro i h
    refine ev_step (fun _ => rfl) (ev_neg (by omega) (ev_now ?_))
    rw [List.drop_eq_nil_of_le (by omega)]
    rfl
  | succ d ih =>
    intro i h
    have e : wrap64 ((i : Int) + 1) = ((i + 1 : Nat) : Int) := by rw [w64 (by omega) (by omega)]; omega
    refine ev_step (fun _ => rfl) (ev_pos (by omega) (ev_pos (by omega) (ev_pos (by omega) ?_)))
    rw [rdM l i (by omega), List.drop_eq_getElem_cons (show i < l.length by omega), e]
    refine ev_ite (fun q => ev_now ?_) (fun q => ?_)
    · rw [List.find?_cons_of_pos (by simpa using q)]
      rfl
    · rw [List.find?_cons_of_neg (by simpa using q)]
      exact ih (i + 1) (by omega)
/-- what MakerAsk comes to -/
def makerAsk (ep last : Int) (l : List S_Mark) (e q : Int) : Int × Int :=
  if e < ep then (4, 0) else if e > ep then (if q = 0 then (0, 0) else (3, 0)) else if q > last then (if wrap64 (q - 1) = last then (0, 0) else (3, 0)) else askOf (l.find? fun x => decide (x.f0 = q))
theorem specMakerAsk (a b ep last e q : Int) (l : List S_Mark) (hn : l.length ≤ 1048576) : Ev (fun k => spec_MakerAsk.f k a b ep last l e q) (makerAsk ep last l e q) := by
  unfold makerAsk
  refine ev_ite (fun h => ev_now (by rw [if_pos h])) (fun h => ?_)
  rw [if_neg h]
  refine ev_ite (fun h2 => ?_) (fun h2 => ?_)
  · rw [if_pos h2]
    exact ev_ite (fun h3 => ev_now (by rw [if_pos h3])) (fun h3 => ev_now (by rw [if_neg h3]))
  · rw [if_neg h2]
    refine ev_ite (fun h3 => ?_) (fun h3 => ?_)
    · rw [if_pos h3]
      exact ev_ite (fun h4 => ev_now (by rw [if_pos h4])) (fun h4 => ev_now (by rw [if_neg h4]))
    · rw [if_neg h3]
      simpa using specAsk_row q a b ep last l hn l.length 0 (by omega)
theorem implMakerAsk (a b ep last e q : Int) (l : List S_Mark) (hn : l.length ≤ 1048576) : Ev (fun k => impl_MakerAsk.f k a b ep last l e q) (makerAsk ep last l e q) := by
  unfold makerAsk
  refine ev_ite (fun h => ev_now (by rw [if_pos h])) (fun h => ?_)
  rw [if_neg h]
  refine ev_ite (fun h2 => ?_) (fun h2 => ?_)
  · rw [if_pos h2]
    refine ev_step (fun _ => by rw [impl_MakerAsk.j0]) ?_
    refine ev_ite (fun h3 => ev_now ?_) (fun h3 => ev_pos h2 (ev_now ?_))
    · rw [if_pos (by simpa using h3)]
    · rw [if_neg (by simpa using h3)]
  · rw [if_neg h2]
    refine ev_step (fun _ => by rw [impl_MakerAsk.j0]) ?_
    refine ev_neg (by simp) (ev_neg h2 ?_)
    refine ev_ite (fun h3 => ?_) (fun h3 => ?_)
    · rw [if_pos h3]
      refine ev_step (fun _ => by rw [impl_MakerAsk.j1]) ?_
      refine ev_ite (fun h4 => ev_now ?_) (fun h4 => ev_pos h3 (ev_now ?_))
      · rw [if_pos (by simpa using h4)]
      · rw [if_neg (by simpa using h4)]
    · rw [if_neg h3]
      refine ev_step (fun _ => by rw [impl_MakerAsk.j1]) ?_
      refine ev_neg (by simp) (ev_neg h3 ?_)
      refine ev_step (fun _ => by rw [impl_MakerAsk.j2]) ?_
      simpa using implAsk_row q l hn l.length 0 (by omega)
end Go.Proofs.Ytgkeapbeogmfjaa.L

/- What is drawn: a draw comes to its end, and its answer keeps to bounds. Condition: a cursor that stands at no place below 0. -/
set_option linter.unusedVariables false
namespace Go.Proofs.Ytgkeapbeogmfjaa.L
open Go.RowKit Go.Proofs.YtgkeapbeogmfjaaW.PrintWords Go.Proofs.YtgkeapbeogmfjaaW.PrintLast Go.Proofs.YtgkeapbeogmfjaaW.PrintMore Go.Proofs.Ytgkeapbeogmfjaa.Q

/-- it comes to an answer, at enough rounds, of which P is true -/
def Dr {α : Type} (f : Nat → Option α) (P : α → Prop) : Prop := ∃ r, Ev f r ∧ P r
theorem dr_now {α : Type} {r : α} {P : α → Prop} (h : P r) : Dr (fun _ => some r) P := ⟨r, ev_now rfl, h⟩
theorem dr_of {α : Type} {f : Nat → Option α} {r : α} {P : α → Prop} (h : Ev f r) (k : P r) : Dr f P := ⟨r, h, k⟩
theorem dr_bind {α β : Type} {g : Nat → Option α} {f : Nat → α → Option β} {P : α → Prop} {Q : β → Prop} (h : Dr g P) (k : ∀ a, P a → Dr (fun n => f n a) Q) : Dr (fun n => (g n).bind (f n)) Q := by
  obtain ⟨a, ha, pa⟩ := h
  obtain ⟨b, hb, qb⟩ := k a pa
  exact ⟨b, ev_bind ha hb, qb⟩
theorem dr_some {α β : Type} {g : Option α} {f : Nat → α → Option β} {P : α → Prop} {Q : β → Prop} (h : ∃ a, g = some a ∧ P a) (k : ∀ a, P a → Dr (fun n => f n a) Q) : Dr (fun n => g.bind (f n)) Q := by
  obtain ⟨a, rfl, pa⟩ := h
  exact k a pa
theorem dr_eq {α β : Type} {g : Option α} {f : Nat → α → Option β} {a : α} {Q : β → Prop} (h : g = some a) (k : Dr (fun n => f n a) Q) : Dr (fun n => g.bind (f n)) Q := by
  subst h
  exact k
theorem dr_pos {α : Type} {c : Prop} [Decidable c] {f g : Nat → Option α} {P : α → Prop} (h : c) (k : Dr f P) : Dr (fun n => if c then f n else g n) P := by
  simpa only [if_pos h] using k
theorem dr_neg {α : Type} {c : Prop} [Decidable c] {f g : Nat → Option α} {P : α → Prop} (h : ¬ c) (k : Dr g P) : Dr (fun n => if c then f n else g n) P := by
  simpa only [if_neg h] using k
theorem dr_ite {α : Type} {c : Prop} [Decidable c] {f g : Nat → Option α} {P : α → Prop} (h : c → Dr f P) (k : ¬ c → Dr g P) : Dr (fun n => if c then f n else g n) P := by
  by_cases hc : c
  · exact dr_pos hc (h hc)
  · exact dr_neg hc (k hc)
theorem dr_step {α : Type} {g f : Nat → Option α} {P : α → Prop} (h : ∀ k, g (k + 1) = f k) (k : Dr f P) : Dr g P := by
  obtain ⟨r, hr, p⟩ := k
  exact ⟨r, ev_step h hr, p⟩
theorem dr_mono {α : Type} {f : Nat → Option α} {P Q : α → Prop} (h : Dr f P) (k : ∀ a, P a → Q a) : Dr f Q := by
  obtain ⟨r, hr, p⟩ := h
  exact ⟨r, hr, k r p⟩

theorem and255 (n : Int) : Go.bits .and .i64 n 255 = n % 256 := by
  have h255 : (BitVec.ofInt 64 255).toNat = 2 ^ 8 - 1 := by decide
  have key : (BitVec.ofInt 64 n &&& BitVec.ofInt 64 255).toNat = (n % ((2 ^ 64 : Nat) : Int)).toNat % 2 ^ 8 := by
    rw [BitVec.toNat_and, BitVec.toNat_ofInt, h255, Nat.and_two_pow_sub_one_eq_mod]
  show IntKind.i64.wrap ((BitVec.ofInt 64 n &&& BitVec.ofInt 64 255).toNat : Nat) = n % 256
  rw [key, IntKind.wrap_i64]
  omega
/-- a cursor's place is one that it may stand at -/
def okC (i : Int) : Prop := 0 ≤ i ∧ i ≤ 1048576
theorem okC_zero : okC 0 := by unfold okC; omega
theorem l1New_l0 (l : List Int) (hl : l.length ≤ 1048576) : ∀ (d i : Nat) (h : Int), i + d = l.length → Dr (fun k => spec_l1New.l0 k l h (i : Int)) (fun r => r.1 = l ∧ okC r.2.1) := by
  intro d
  induction d with
  | zero => intro i h q; exact dr_step (fun _ => rfl) (dr_neg (by omega) (dr_now ⟨rfl, okC_zero⟩))
  | succ d ih =>
    intro i h q
    have e : wrap64 ((i : Int) + 1) = ((i + 1 : Nat) : Int) := by rw [w64 (by omega) (by omega)]; omega
    refine dr_step (fun _ => rfl) (dr_pos (by omega) (dr_ite (fun _ => dr_pos (by omega) ?_) (fun _ => dr_now ⟨rfl, okC_zero⟩)))
    rw [e]
    exact ih (i + 1) _ (by omega)
theorem l1New (l : List Int) (hl : l.length ≤ 1048576) : Dr (fun k => spec_l1New.f k l) (fun r => r.1 = l ∧ okC r.2.1) := l1New_l0 l hl l.length 0 _ (by omega)
theorem l1Byte (l : List Int) (hl : l.length ≤ 1048576) (i h : Int) (hi : okC i) : ∃ r, spec_l1Byte.f l i h = some r ∧ 0 ≤ r.1 ∧ r.1 ≤ 255 ∧ okC r.2.1 := by
  unfold okC at hi
  unfold spec_l1Byte.f
  simp only [and255]
  split
  · rw [if_pos hi.1]
    refine ⟨_, rfl, ?_, ?_, ?_⟩
    · show 0 ≤ _ % 256
      omega
    · show _ % 256 ≤ 255
      omega
    · show 0 ≤ wrap64 (i + 1) ∧ wrap64 (i + 1) ≤ 1048576
      rw [w64 (by omega) (by omega)]
      omega
  · refine ⟨_, rfl, ?_, ?_, hi⟩
    · show 0 ≤ _ % 256
      omega
    · show _ % 256 ≤ 255
      omega
theorem l1Below (l : List Int) (hl : l.length ≤ 1048576) (i h n : Int) (hi : okC i) (hn : n ≤ 2147483647) : ∃ r, spec_l1Below.f l i h n = some r ∧ 0 ≤ r.1 ∧ (0 < n → r.1 < n) ∧ okC r.2.1 := by
  unfold spec_l1Below.f
  split
  · exact ⟨_, rfl, by show (0 : Int) ≤ 0; omega, fun _ => by omega, hi⟩
  · split
    · obtain ⟨r, hr, h0, h1, h2⟩ := l1Byte l hl i h hi
      rw [hr, Option.bind_some, if_neg (by omega)]
      refine ⟨_, rfl, ?_, fun _ => ?_, h2⟩
      · show 0 ≤ Int.tmod r.1 n
        rw [Int.tmod_eq_emod_of_nonneg h0]
        exact Int.emod_nonneg _ (by omega)
      · show Int.tmod r.1 n < n
        rw [Int.tmod_eq_emod_of_nonneg h0]
        exact Int.emod_lt_of_pos _ (by omega)
    · obtain ⟨a, ha, a0, a1, ai⟩ := l1Byte l hl i h hi
      obtain ⟨b, hb, b0, b1, bi⟩ := l1Byte l hl a.2.1 a.2.2 ai
      obtain ⟨c, hc, c0, c1, ci⟩ := l1Byte l hl b.2.1 b.2.2 bi
      obtain ⟨d, hd, d0, d1, di⟩ := l1Byte l hl c.2.1 c.2.2 ci
      rw [ha, Option.bind_some, hb, Option.bind_some, hc, Option.bind_some, hd, Option.bind_some, if_neg (by omega)]
      have e1 : wrap64 (a.1 * 16777216) = a.1 * 16777216 := w64 (by omega) (by omega)
      have e2 : wrap64 (b.1 * 65536) = b.1 * 65536 := w64 (by omega) (by omega)
      have e3 : wrap64 (c.1 * 256) = c.1 * 256 := w64 (by omega) (by omega)
      have e4 : wrap64 (a.1 * 16777216 + b.1 * 65536) = a.1 * 16777216 + b.1 * 65536 := w64 (by omega) (by omega)
      have e5 : wrap64 (a.1 * 16777216 + b.1 * 65536 + c.1 * 256) = a.1 * 16777216 + b.1 * 65536 + c.1 * 256 := w64 (by omega) (by omega)
      have e6 : wrap64 (a.1 * 16777216 + b.1 * 65536 + c.1 * 256 + d.1) = a.1 * 16777216 + b.1 * 65536 + c.1 * 256 + d.1 := w64 (by omega) (by omega)
      rw [e1, e2, e3, e4, e5, e6]
      refine ⟨_, rfl, ?_, fun _ => ?_, di⟩
      · show 0 ≤ Int.tmod _ n
        rw [Int.tmod_eq_emod_of_nonneg (by omega)]
        exact Int.emod_nonneg _ (by omega)
      · show Int.tmod _ n < n
        rw [Int.tmod_eq_emod_of_nonneg (by omega)]
        exact Int.emod_lt_of_pos _ (by omega)
theorem l1Once (l : List Int) (hl : l.length ≤ 1048576) (i h n : Int) (hi : okC i) (hn : n ≤ 2147483647) : ∃ r, spec_l1Once.f l i h n = some r ∧ okC r.2.1 := by
  obtain ⟨r, hr, _, _, h2⟩ := l1Below l hl i h n hi hn
  unfold spec_l1Once.f
  rw [hr, Option.bind_some]
  exact ⟨_, rfl, h2⟩
theorem l1PickInt (l : List Int) (hl : l.length ≤ 1048576) (i h : Int) (xs : List Int) (hi : okC i) (h0 : 0 < xs.length) (hn : xs.length ≤ 1048576) : ∃ r, spec_l1PickInt.f l i h xs = some r ∧ r.1 ∈ xs ∧ okC r.2.1 := by
  obtain ⟨r, hr, r0, r1, h2⟩ := l1Below l hl i h (xs.length : Int) hi (by omega)
  have r1 := r1 (by omega)
  unfold spec_l1PickInt.f
  rw [hr, Option.bind_some, if_pos r0, if_pos r1]
  refine ⟨_, rfl, ?_, h2⟩
  obtain ⟨j, hj⟩ := Int.eq_ofNat_of_zero_le r0
  show rd xs r.1 ∈ xs
  rw [hj]
  have : j < xs.length := by omega
  show rd xs (j : Int) ∈ xs
  rw [rd_eq xs j this]
  exact List.getElem_mem _
end Go.Proofs.Ytgkeapbeogmfjaa.L

/- The plain side of MakerPut and of the laws' marks on makers: program and reference come to one answer. Condition: lists of at most 2^20 elements. -/
namespace Go.Proofs.Ytgkeapbeogmfjaa.L
open Go.RowKit Go.Proofs.YtgkeapbeogmfjaaW.PrintWords Go.Proofs.YtgkeapbeogmfjaaW.PrintLast Go.Proofs.YtgkeapbeogmfjaaW.PrintMore Go.Proofs.Ytgkeapbeogmfjaa.Q

theorem specCopyMaker (a b c d : Int) (l : List S_Mark) (hn : l.length ≤ 2097152) : spec_l4Copy.f a b c d l = some (a, b, c, d, l) := by
  unfold spec_l4Copy.f
  simp only [Option.bind_some, List.length_nil, List.nil_append]
  rw [if_pos (by omega)]
theorem implCopyMaker (a b c d : Int) (l : List S_Mark) (hn : l.length ≤ 2097152) : impl_copyMaker.f a b c d l = some (a, b, c, d, l) := by
  unfold impl_copyMaker.f
  simp only [List.length_nil, List.nil_append]
  rw [if_pos (by omega)]
/-- the last marks of a window -/
def keepW (w : Int) (l : List S_Mark) : List S_Mark := l.drop ((l.length : Int) - mx w 0).toNat
/-- what MakerPut comes to -/
def makerPut (a b ep last : Int) (l : List S_Mark) (w e q o : Int) : Int × Int × Int × Int × List S_Mark :=
  if (makerAsk ep last l e q).1 = 0 then (a, b, e, q, keepW w ((if e > ep then [] else l) ++ [⟨q, o⟩])) else (a, b, ep, last, l)
theorem keepW_len (w : Int) (l : List S_Mark) : (keepW w l).length ≤ l.length := by simp [keepW]
theorem makerPut_len (a b ep last : Int) (l : List S_Mark) (w e q o : Int) : (makerPut a b ep last l w e q o).2.2.2.2.length ≤ l.length + 1 := by
  unfold makerPut
  split
  · refine Nat.le_trans (keepW_len _ _) ?_
    split <;> simp
  · exact Nat.le_succ _
theorem specMax (w : Int) : spec_l1Max.f w 0 = some (mx w 0) := by
  unfold spec_l1Max.f mx
  by_cases h : w > 0
  · rw [if_pos h, if_neg (by omega)]
  · rw [if_neg h]
    by_cases h2 : w < 0
    · rw [if_pos h2]
    · rw [if_neg h2, show w = 0 by omega]
theorem mx_bounds (w : Int) (hw : w ≤ 9223372036854775807) : 0 ≤ mx w 0 ∧ mx w 0 ≤ 9223372036854775807 := by
  unfold mx
  split <;> omega
theorem specPut_j1 (a b x y : Int) (l : List S_Mark) (w e q o : Int) (hw : w ≤ 9223372036854775807) (hn : l.length ≤ 1048576) : Ev (fun k => spec_MakerPut.j1 k w e q o a b x y l) (a, b, e, q, keepW w (l ++ [⟨q, o⟩])) := by
  have hm := mx_bounds w hw
  have hl : (l ++ [(⟨q, o⟩ : S_Mark)]).length = l.length + 1 := by simp
  refine ev_step (fun _ => by rw [spec_MakerPut.j1]) ?_
  refine ev_pos (by omega) (ev_some rfl (ev_some (specMax w) ?_))
  by_cases h : ((l ++ [(⟨q, o⟩ : S_Mark)]).length : Int) > mx w 0
  · have e1 : wrap64 (((l ++ [(⟨q, o⟩ : S_Mark)]).length : Int) - mx w 0) = ((l ++ [(⟨q, o⟩ : S_Mark)]).length : Int) - mx w 0 := w64 (by omega) (by omega)
    refine ev_pos h (ev_some rfl (ev_some (specMax w) ?_))
    rw [e1]
    refine ev_pos (by omega) (ev_pos (by omega) (ev_some rfl (ev_pos ?_ (ev_now rfl))))
    simp only [List.length_nil, List.length_drop, List.length_append, List.length_singleton]
    omega
  · refine ev_neg h (ev_now ?_)
    unfold keepW
    rw [show (((l ++ [(⟨q, o⟩ : S_Mark)]).length : Int) - mx w 0).toNat = 0 by omega, List.drop_zero]
theorem specMakerPut (a b ep last : Int) (l : List S_Mark) (w e q o : Int) (hw : w ≤ 9223372036854775807) (hn : l.length ≤ 1048576) : Ev (fun k => spec_MakerPut.f k a b ep last l w e q o) (makerPut a b ep last l w e q o) := by
  refine ev_some (specCopyMaker a b ep last l (by omega)) (ev_bind (specMakerAsk a b ep last e q l hn) ?_)
  unfold makerPut
  by_cases h : (makerAsk ep last l e q).1 = 0
  · rw [if_pos h]
    refine ev_pos h (ev_step (fun _ => by rw [spec_MakerPut.j0]) ?_)
    by_cases h2 : e > ep
    · rw [show (if e > ep then ([] : List S_Mark) else l) = [] from if_pos h2]
      exact ev_pos h2 (specPut_j1 a b ep last [] w e q o hw (by simp))
    · rw [show (if e > ep then ([] : List S_Mark) else l) = l from if_neg h2]
      exact ev_neg h2 (specPut_j1 a b ep last l w e q o hw hn)
  · rw [if_neg h]
    exact ev_neg h (ev_now rfl)
theorem implDrop (l : List S_Mark) (w : Int) (hw : w ≤ 9223372036854775807) (hn : l.length ≤ 1048577) :
    0 ≤ mx (wrap64 ((l.length : Int) - mx w 0)) 0 ∧ mx (wrap64 ((l.length : Int) - mx w 0)) 0 ≤ (l.length : Int) ∧ l.drop (mx (wrap64 ((l.length : Int) - mx w 0)) 0).toNat = keepW w l := by
  have hm := mx_bounds w hw
  have e1 : wrap64 ((l.length : Int) - mx w 0) = (l.length : Int) - mx w 0 := w64 (by omega) (by omega)
  rw [e1]
  have e2 : (mx ((l.length : Int) - mx w 0) 0).toNat = ((l.length : Int) - mx w 0).toNat := by
    generalize (l.length : Int) - mx w 0 = z
    unfold mx
    split <;> omega
  refine ⟨?_, ?_, ?_⟩
  · generalize (l.length : Int) - mx w 0 = z
    unfold mx
    split <;> omega
  · have : (l.length : Int) - mx w 0 ≤ (l.length : Int) := by omega
    generalize (l.length : Int) - mx w 0 = z at this
    unfold mx
    split <;> omega
  · rw [e2]
    rfl
theorem implMakerPut (a b ep last : Int) (l : List S_Mark) (w e q o : Int) (hw : w ≤ 9223372036854775807) (hn : l.length ≤ 1048576) : Ev (fun k => impl_MakerPut.f k a b ep last l w e q o) (makerPut a b ep last l w e q o) := by
  have hl : (l ++ [(⟨q, o⟩ : S_Mark)]).length = l.length + 1 := by simp
  have hl0 : (([] : List S_Mark) ++ [(⟨q, o⟩ : S_Mark)]).length = 1 := by simp
  refine ev_some (implCopyMaker a b ep last l (by omega)) (ev_bind (implMakerAsk a b ep last e q l hn) ?_)
  unfold makerPut
  by_cases h : (makerAsk ep last l e q).1 = 0
  · rw [if_pos h]
    refine ev_pos h (ev_step (fun _ => by rw [impl_MakerPut.j0]) ?_)
    by_cases h2 : e > ep
    · rw [show (if e > ep then ([] : List S_Mark) else l) = [] from if_pos h2]
      obtain ⟨d0, d1, d2⟩ := implDrop (([] : List S_Mark) ++ [(⟨q, o⟩ : S_Mark)]) w hw (by omega)
      refine ev_pos h2 (ev_pos (by simp) (ev_some rfl (ev_pos d0 (ev_pos d1 (ev_some rfl (ev_pos ?_ (ev_now ?_)))))))
      · simp only [List.length_nil, List.length_drop]
        omega
      · rw [d2]
        rfl
    · rw [show (if e > ep then ([] : List S_Mark) else l) = l from if_neg h2]
      obtain ⟨d0, d1, d2⟩ := implDrop (l ++ [(⟨q, o⟩ : S_Mark)]) w hw (by omega)
      refine ev_neg h2 (ev_pos (show l.length < 8796093022208 by omega) (ev_some rfl (ev_pos d0 (ev_pos d1 (ev_some rfl (ev_pos ?_ (ev_now ?_)))))))
      · simp only [List.length_nil, List.length_drop]
        omega
      · rw [d2]
        rfl
  · rw [if_neg h]
    exact ev_neg h (ev_now rfl)
/-- marks with numbers from q on -/
def mMark (q : Nat) : S_Mark := ⟨(q : Int), ((q + 1 : Nat) : Int)⟩
def mMarks (q n : Nat) : List S_Mark := (List.range n).map fun i => mMark (q + 2 * i)
theorem mMarks_len (q n : Nat) : (mMarks q n).length = n := by simp [mMarks]
theorem wM (x : Nat) (h : x ≤ 4611686018427387904) : wrap64 ((x : Int) + 1) = ((x + 1 : Nat) : Int) := by
  rw [w64 (by omega) (by omega)]
  omega
theorem rdMSet (l : List S_Mark) (i : Nat) (h : i < l.length) (x : S_Mark) : rd_Mark (l.set i x) (i : Int) = x := by
  rw [rdM _ i (by simpa using h)]
  simp
theorem markMarkS_l0 (q n : Nat) (hq : q ≤ 1073741824) (hn : n ≤ 2097152) : ∀ (d i : Nat) (acc : List S_Mark), i + d = n → acc.length = n → acc.take i = mMarks q i →
    Ev (fun k => laws_markMarkS.l0 k acc ((q + 2 * i : Nat) : Int) (i : Int)) (((q + 2 * n : Nat) : Int), mMarks q n) := by
  intro d
  induction d with
  | zero =>
    intro i acc h1 h2 h3
    obtain rfl : i = n := by omega
    refine ev_step (fun _ => by rw [laws_markMarkS.l0]) ?_
    refine ev_neg (by omega) (ev_now ?_)
    rw [← h3, List.take_of_length_le (by omega)]
  | succ d ih =>
    intro i acc h1 h2 h3
    have hi : i < acc.length := by omega
    have hz : (i : Int) < (acc.length : Int) := by omega
    have h0 : (0 : Int) ≤ (i : Int) := by omega
    have hlast := ih (i + 1) (acc.set i (mMark (q + 2 * i))) (by omega) (by simp; omega) (by
      rw [List.take_succ_eq_append_getElem (by simp; omega), List.take_set_of_le (Nat.le_refl i), List.getElem_set_self, h3]
      simp [mMarks, List.range_succ])
    have w1 := wM (q + 2 * i) (by omega)
    have w2 := wM (q + 2 * i + 1) (by omega)
    have e := wM i (by omega)
    clear hq hn h1 h2 h3 ih
    refine ev_step (fun _ => by rw [laws_markMarkS.l0]) ?_
    refine ev_pos hz (ev_pos h0 ?_)
    simp only [w1, w2, e, Int.toNat_natCast]
    refine ev_some rfl ?_
    simp only [List.set_set, rdMSet _ i hi]
    exact hlast
theorem markMarkS (q : Nat) (l : List S_Mark) (hq : q ≤ 1073741824) (hn : l.length ≤ 2097152) : Ev (fun k => laws_markMarkS.f k l (q : Int)) (((q + 2 * l.length : Nat) : Int), mMarks q l.length) := markMarkS_l0 q l.length hq hn l.length 0 l (by omega) rfl (by simp [mMarks])
theorem heldMarkS_l0 (q n : Nat) (hq : q ≤ 1073741824) (hn : n ≤ 2097152) : ∀ (d i : Nat), i + d = n → Ev (fun k => laws_heldMarkS.l0 k (mMarks q n) ((q + 2 * i : Nat) : Int) (i : Int)) ((q + 2 * n : Nat) : Int) := by
  intro d
  induction d with
  | zero =>
    intro i h1
    obtain rfl : i = n := by omega
    refine ev_step (fun _ => by rw [laws_heldMarkS.l0]) ?_
    exact ev_neg (by rw [mMarks_len]; omega) (ev_now rfl)
  | succ d ih =>
    intro i h1
    have hl : (i : Int) < ((mMarks q n).length : Int) := by rw [mMarks_len]; omega
    have h0 : (0 : Int) ≤ (i : Int) := by omega
    have hr : rd_Mark (mMarks q n) (i : Int) = mMark (q + 2 * i) := by
      rw [rdM _ i (by omega)]
      simp [mMarks]
    have hlast := ih (i + 1) (by omega)
    have w1 := wM (q + 2 * i) (by omega)
    have w2 := wM (q + 2 * i + 1) (by omega)
    have e := wM i (by omega)
    clear hq hn h1 ih
    refine ev_step (fun _ => by rw [laws_heldMarkS.l0]) ?_
    refine ev_pos hl (ev_pos h0 ?_)
    rw [hr]
    refine ev_pos rfl ?_
    rw [w1, w2, e]
    exact ev_pos rfl hlast
theorem heldMarkS (q n : Nat) (hq : q ≤ 1073741824) (hn : n ≤ 2097152) : Ev (fun k => laws_heldMarkS.f k (mMarks q n) (q : Int)) ((q + 2 * n : Nat) : Int) := heldMarkS_l0 q n hq hn n 0 (by omega)
theorem markMaker (q : Nat) (a b c d : Int) (l : List S_Mark) (hq : q ≤ 1073741824) (hn : l.length ≤ 2097152) : Ev (fun k => laws_markMaker.f k a b c d l (q : Int)) (((q + 2 * l.length : Nat) : Int), mMarks q l.length) := ev_bind (markMarkS q l hq hn) (ev_now rfl)
theorem heldMaker (q : Nat) (a b c d : Int) (n : Nat) (hq : q ≤ 1073741824) (hn : n ≤ 2097152) : Ev (fun k => laws_heldMaker.f k a b c d (mMarks q n) (q : Int)) ((q + 2 * n : Nat) : Int) := ev_bind (heldMarkS q n hq hn) (ev_neg (by omega) (ev_now rfl))
end Go.Proofs.Ytgkeapbeogmfjaa.L

/- What is drawn of makers: a draw comes to its end, with few marks. Condition: a cursor that stands at no place below 0. -/
namespace Go.Proofs.Ytgkeapbeogmfjaa.L
open Go.RowKit Go.Proofs.YtgkeapbeogmfjaaW.PrintWords Go.Proofs.YtgkeapbeogmfjaaW.PrintLast Go.Proofs.YtgkeapbeogmfjaaW.PrintMore Go.Proofs.Ytgkeapbeogmfjaa.Q

/-- a drawn maker: n marks at the most, and the cursor's place -/
def okM (n : Nat) (x : Int × Int × Int × Int × List S_Mark × Int × Int) : Prop := x.2.2.2.2.1.length ≤ n ∧ okC x.2.2.2.2.2.1
theorem rightM_l0 (l : List Int) (hl : l.length ≤ 1048576) : ∀ (d i : Nat), i + d = 7 → ∀ (ci ch a b e t : Int) (m : List S_Mark), okC ci → m.length ≤ i →
    Dr (fun k => spec_l4DrawRight.l0 k (i : Int) l ci ch a b e t m) (okM 7) := by
  intro d
  induction d with
  | zero =>
    intro i hi ci ch a b e t m hc hm
    obtain ⟨r, hr, r0, r1, r2⟩ := l1Below l hl ci ch 8 hc (by omega)
    have := r1 (by omega)
    refine dr_step (fun _ => by rw [spec_l4DrawRight.l0]) ?_
    exact dr_eq hr (dr_neg (by omega) (dr_now ⟨by show m.length ≤ 7; omega, r2⟩))
  | succ d ih =>
    intro i hi ci ch a b e t m hc hm
    obtain ⟨r, hr, r0, r1, r2⟩ := l1Below l hl ci ch 8 hc (by omega)
    have ei : wrap64 ((i : Int) + 1) = ((i + 1 : Nat) : Int) := by rw [w64 (by omega) (by omega)]; omega
    have j2 : ∀ (e2 q2 ci ch : Int), okC ci → Dr (fun k => spec_l4DrawRight.j2 k (i : Int) e2 q2 l ci ch a b e t m) (okM 7) := fun e2 q2 ci ch hc => by
      refine dr_step (fun _ => by rw [spec_l4DrawRight.j2]) ?_
      refine dr_some (l1Below l hl ci ch 3 hc (by omega)) (fun s hs => ?_)
      have s1 := hs.2.1 (by omega)
      have s0 := hs.1
      refine dr_bind (dr_of (P := fun y => y.2.2.2.2.length ≤ m.length + 1) (specMakerPut a b e t m (wrap64 (1 + s.1)) e2 q2 (wrap64 (2 * (i : Int))) (by rw [w64 (by omega) (by omega)]; omega) (by omega)) (makerPut_len a b e t m _ e2 q2 _)) (fun y hy => ?_)
      rw [ei]
      exact ih (i + 1) (by omega) _ _ _ _ _ _ _ hs.2.2 (by omega)
    refine dr_step (fun _ => by rw [spec_l4DrawRight.l0]) ?_
    refine dr_eq hr (dr_ite (fun _ => ?_) (fun _ => dr_now ⟨by show m.length ≤ 7; omega, r2⟩))
    refine dr_step (fun _ => by rw [spec_l4DrawRight.j1]) ?_
    exact dr_some (l1Below l hl _ _ 9 r2 (by omega)) (fun s hs => dr_ite (fun _ => j2 _ _ _ _ hs.2.2) (fun _ => j2 _ _ _ _ hs.2.2))
theorem l4DrawRight (l : List Int) (hl : l.length ≤ 1048576) (ci ch : Int) (hc : okC ci) : Dr (fun k => spec_l4DrawRight.f k l ci ch) (okM 7) :=
  dr_some (l1Below l hl ci ch 3 hc (by omega)) (fun r hr => dr_some (l1Below l hl _ _ 4 hr.2.2 (by omega)) (fun s hs => rightM_l0 l hl 7 0 rfl _ _ _ _ _ _ _ hs.2.2 (by simp)))
theorem l4Draw (l : List Int) (hl : l.length ≤ 1048576) (ci ch : Int) (hc : okC ci) : Dr (fun k => spec_l4Draw.f k l ci ch) (okM 8) := by
  refine dr_bind (l4DrawRight l hl ci ch hc) (fun x hx => ?_)
  obtain ⟨xm, xc⟩ := hx
  refine dr_some (l1Below l hl _ _ 12 xc (by omega)) (fun r hr => ?_)
  refine dr_ite (fun _ => ?_) (fun _ => dr_ite (fun _ => ?_) (fun _ => dr_ite (fun _ => ?_) (fun _ => dr_ite (fun _ => ?_) (fun _ => ?_))))
  · exact dr_some (l1PickInt l hl _ _ _ hr.2.2 (by simp) (by simp)) (fun p hp => dr_now ⟨Nat.le_succ_of_le xm, hp.2⟩)
  · exact dr_some (l1PickInt l hl _ _ _ hr.2.2 (by simp) (by simp)) (fun p hp => dr_now ⟨Nat.le_succ_of_le xm, hp.2⟩)
  · refine dr_some (l1Below l hl _ _ 9 hr.2.2 (by omega)) (fun p hp => dr_some (l1Below l hl _ _ 9 hp.2.2 (by omega)) (fun q hq => dr_pos (by omega) (dr_now ⟨?_, hq.2.2⟩)))
    simp only [List.length_append, List.length_cons, List.length_nil]
    omega
  · exact dr_some (l1PickInt l hl _ _ _ hr.2.2 (by simp) (by simp)) (fun p hp => dr_now ⟨Nat.le_succ_of_le xm, hp.2⟩)
  · exact dr_now ⟨Nat.le_succ_of_le xm, hr.2.2⟩
theorem drawMakerAsk (l : List Int) (hl : l.length ≤ 1048576) : Dr (fun k => spec_DrawMakerAsk.f k l) (fun x => x.2.2.2.2.1.length ≤ 8) := by
  refine dr_bind (l1New l hl) (fun c hc => ?_)
  obtain ⟨c0, ci, ch⟩ := c
  obtain ⟨rfl, hc⟩ := hc
  exact dr_bind (l4Draw c0 hl ci ch hc) (fun x hx => dr_some (l1PickInt c0 hl _ _ _ hx.2 (by simp) (by simp)) (fun p hp => dr_some (l1PickInt c0 hl _ _ _ hp.2 (by simp) (by simp)) (fun q hq => dr_now hx.1)))
end Go.Proofs.Ytgkeapbeogmfjaa.L

/- The plain side of numbers within bounds: program and reference come to one answer. No condition. -/
namespace Go.Proofs.Ytgkeapbeogmfjaa.L
open Go.RowKit Go.Proofs.YtgkeapbeogmfjaaW.PrintWords Go.Proofs.YtgkeapbeogmfjaaW.PrintLast Go.Proofs.YtgkeapbeogmfjaaW.PrintMore Go.Proofs.Ytgkeapbeogmfjaa.Q

/-- is a number within bounds -/
def inb (x a b : Int) : Bool := decide (a ≤ x) && decide (x ≤ b)
theorem specIn (x a b : Int) : spec_l1In.f x a b = some (inb x a b) := by
  unfold spec_l1In.f inb
  by_cases h : x ≥ a
  · rw [if_pos h]; simp [show a ≤ x from h]
  · rw [if_neg h]; simp [show ¬ a ≤ x from h]
theorem implIn (x a b : Int) : impl_within.f x a b = some (inb x a b) := by
  unfold impl_within.f inb
  by_cases h : x ≥ a
  · rw [if_pos h]; simp [show a ≤ x from h]
  · rw [if_neg h]; simp [show ¬ a ≤ x from h]
theorem inb_true {x a b : Int} : inb x a b = true ↔ a ≤ x ∧ x ≤ b := by simp [inb]
theorem ev_and {g : Nat → Option Bool} {c d : Bool} (h : c = true → Ev g d) : Ev (fun n => if c = true then (g n) else some false) (c && d) := by
  cases c with
  | false => exact ev_neg (by simp) (ev_now rfl)
  | true => exact ev_pos rfl (by simpa using h rfl)

end Go.Proofs.Ytgkeapbeogmfjaa.L

/- The plain side of MakerOk, of the program's; and a comparison of makers of the laws. Condition: lists of at most 2^20 elements. -/
namespace Go.Proofs.Ytgkeapbeogmfjaa.L
open Go.RowKit Go.Proofs.YtgkeapbeogmfjaaW.PrintWords Go.Proofs.YtgkeapbeogmfjaaW.PrintLast Go.Proofs.YtgkeapbeogmfjaaW.PrintMore Go.Proofs.Ytgkeapbeogmfjaa.Q

/-- is the mark at i right in its maker -/
def markAt (last : Int) (l : List S_Mark) (i : Nat) : Bool :=
  decide ((rd_Mark l (i : Int)).f0 = wrap64 (wrap64 (wrap64 (last - (l.length : Int)) + 1) + (i : Int))) && (inb (rd_Mark l (i : Int)).f1 0 100000 && !(decide (0 < i) && decide ((rd_Mark l ((i : Int) - 1)).f1 ≥ (rd_Mark l (i : Int)).f1)))
def allMk (last : Int) (l : List S_Mark) : Nat → Nat → Bool
  | 0, _ => true
  | d + 1, i => markAt last l i && allMk last l d (i + 1)
/-- is a maker right, its marks left out -/
def makerHead (a b e last : Int) (l : List S_Mark) (w : Int) : Bool :=
  inb a 0 3 && (inb b 0 3 && (inb e 0 100000 && (inb last (-1) 100000 && (decide ((l.length : Int) ≤ w) && !((last == (-1)) != ((l.length : Int) == 0))))))
def makerOk (a b e last : Int) (l : List S_Mark) (w : Int) : Bool := makerHead a b e last l w && allMk last l l.length 0
theorem allMk_at (last : Int) (l : List S_Mark) : ∀ (d i : Nat), allMk last l d i = true → ∀ j, i ≤ j → j < i + d → markAt last l j = true := by
  intro d
  induction d with
  | zero => intro i _ j h1 h2; omega
  | succ d ih =>
    intro i h j h1 h2
    unfold allMk at h
    rw [Bool.and_eq_true] at h
    by_cases e : j = i
    · rw [e]; exact h.1
    · exact ih (i + 1) h.2 j (by omega) (by omega)
theorem implMk_l0 (a b e last : Int) (l : List S_Mark) (hn : l.length ≤ 1048576) : ∀ (d i : Nat), i + d = l.length → Ev (fun k => impl_MakerOk.l0 k l (l.length : Int) (i : Int) a b e last l) (allMk last l d i) := by
  intro d
  induction d with
  | zero =>
    intro i h
    refine ev_step (fun _ => by rw [impl_MakerOk.l0]) ?_
    exact ev_neg (by omega) (ev_now rfl)
  | succ d ih =>
    intro i h
    have ei : wrap64 ((i : Int) + 1) = ((i + 1 : Nat) : Int) := by rw [w64 (by omega) (by omega)]; omega
    have hw : 0 < i → wrap64 ((i : Int) - 1) = (i : Int) - 1 := fun q => w64 (by omega) (by omega)
    have stop : ∀ c : Bool, c = true → markAt last l i = false → Ev (fun k => impl_MakerOk.j4 k l (l.length : Int) (i : Int) c a b e last l) (allMk last l (d + 1) i) := fun c hc q => by
      refine ev_step (fun _ => by rw [impl_MakerOk.j4]) ?_
      exact ev_pos hc (ev_now (by simp [allMk, q]))
    have cont : ∀ c : Bool, c = false → markAt last l i = true → Ev (fun k => impl_MakerOk.j4 k l (l.length : Int) (i : Int) c a b e last l) (allMk last l (d + 1) i) := fun c hc q => by
      refine ev_step (fun _ => by rw [impl_MakerOk.j4]) ?_
      refine ev_neg (by simp [hc]) ?_
      rw [ei]
      exact ev_eq (by simp [allMk, q]) (ih (i + 1) (by omega))
    refine ev_step (fun _ => by rw [impl_MakerOk.l0]) ?_
    refine ev_pos (by omega) (ev_step (fun _ => by rw [impl_MakerOk.j3]) ?_)
    refine ev_pos (by omega) (ev_pos (by omega) ?_)
    by_cases q1 : (rd_Mark l (i : Int)).f0 = wrap64 (wrap64 (wrap64 (last - (l.length : Int)) + 1) + (i : Int))
    · refine ev_pos q1 (ev_some (implIn _ _ _) ?_)
      by_cases q2 : inb (rd_Mark l (i : Int)).f1 0 100000 = true
      · refine ev_pos q2 ?_
        by_cases q3 : 0 < i
        · refine ev_pos (by omega) ?_
          rw [hw q3]
          refine ev_pos (by omega) (ev_pos (by omega) ?_)
          by_cases q4 : (rd_Mark l ((i : Int) - 1)).f1 ≥ (rd_Mark l (i : Int)).f1
          · exact stop _ (by simpa using q4) (by simp [markAt, q3]; intro _ _; omega)
          · exact cont _ (by simpa using q4) (by unfold markAt; rw [decide_eq_true q1, q2]; simp; omega)
        · exact ev_neg (by omega) (cont _ rfl (by unfold markAt; rw [decide_eq_true q1, q2]; simp; omega))
      · exact ev_neg q2 (stop _ rfl (by simp [markAt, q2]))
    · exact ev_neg q1 (stop _ rfl (by simp [markAt, q1]))
theorem implMakerOk (a b e last : Int) (l : List S_Mark) (w : Int) (hn : l.length ≤ 1048576) : Ev (fun k => impl_MakerOk.f k a b e last l w) (makerOk a b e last l w) := by
  have go : ∀ c : Bool, Ev (fun k => impl_MakerOk.j0 k c a b e last l) (!c && allMk last l l.length 0) := fun c => by
    refine ev_step (fun _ => by rw [impl_MakerOk.j0]) ?_
    cases c with
    | true => exact ev_pos rfl (ev_now rfl)
    | false =>
      refine ev_neg (by simp) (ev_step (fun _ => by rw [impl_MakerOk.j1]) ?_)
      simpa using implMk_l0 a b e last l hn l.length 0 (by omega)
  have no : makerHead a b e last l w = false → Ev (fun k => impl_MakerOk.j0 k true a b e last l) (makerOk a b e last l w) := fun q => ev_eq (by unfold makerOk; rw [q]; rfl) (go true)
  refine ev_some (implIn _ _ _) ?_
  by_cases q1 : inb a 0 3 = true
  · refine ev_pos q1 (ev_some (implIn _ _ _) ?_)
    by_cases q2 : inb b 0 3 = true
    · refine ev_pos q2 (ev_some (implIn _ _ _) ?_)
      by_cases q3 : inb e 0 100000 = true
      · refine ev_pos q3 (ev_some (implIn _ _ _) ?_)
        by_cases q4 : inb last (-1) 100000 = true
        · refine ev_pos q4 ?_
          by_cases q5 : (l.length : Int) > w
          · exact ev_pos q5 (no (by unfold makerHead; rw [show decide ((l.length : Int) ≤ w) = false from decide_eq_false (by omega)]; simp))
          · refine ev_neg q5 (ev_eq ?_ (go _))
            unfold makerOk makerHead
            rw [q1, q2, q3, q4, show decide ((l.length : Int) ≤ w) = true from decide_eq_true (by omega)]
            simp
        · exact ev_neg q4 (no (by simp [makerHead, q4]))
      · exact ev_neg q3 (no (by simp [makerHead, q3]))
    · exact ev_neg q2 (no (by simp [makerHead, q2]))
  · exact ev_neg q1 (no (by simp [makerHead, q1]))
theorem sameMaker_l0 (a b c d : Int) (l : List S_Mark) (hn : l.length ≤ 1048577) : ∀ (k i : Nat), i + k = l.length → Ev (fun n => laws_sameMaker.l0 n (i : Int) a b c d l a b c d l) true := by
  intro k
  induction k with
  | zero =>
    intro i h
    refine ev_step (fun _ => by rw [laws_sameMaker.l0]) ?_
    exact ev_neg (by omega) (ev_now rfl)
  | succ k ih =>
    intro i h
    have ei : wrap64 ((i : Int) + 1) = ((i + 1 : Nat) : Int) := by rw [w64 (by omega) (by omega)]; omega
    refine ev_step (fun _ => by rw [laws_sameMaker.l0]) ?_
    refine ev_pos (by omega) (ev_pos (by omega) (ev_pos (by omega) (ev_neg (by simp) ?_)))
    rw [ei]
    exact ih (i + 1) (by omega)
theorem sameMaker (a b c d : Int) (l : List S_Mark) (hn : l.length ≤ 1048577) : Ev (fun n => laws_sameMaker.f n a b c d l a b c d l) true := by
  refine ev_pos rfl (ev_pos rfl (ev_pos rfl (ev_pos rfl ?_)))
  refine ev_step (fun _ => by rw [laws_sameMaker.j0]) ?_
  exact ev_neg (by simp) (sameMaker_l0 a b c d l hn l.length 0 (by omega))
end Go.Proofs.Ytgkeapbeogmfjaa.L

/- FnFenced as a plain statement: proved for all drawn codes. -/
namespace Go.Proofs.Ytgkeapbeogmfjaa.Pure
open Go.RowKit Go.Proofs.YtgkeapbeogmfjaaW.PrintWords Go.Proofs.YtgkeapbeogmfjaaW.PrintLast Go.Proofs.YtgkeapbeogmfjaaW.PrintMore Go.Proofs.Ytgkeapbeogmfjaa.Q Go.Proofs.Ytgkeapbeogmfjaa.L

theorem ask_fenced (ep last : Int) (l : List S_Mark) (e q : Int) (h : e < ep) : (makerAsk ep last l e q).1 = 4 := by
  unfold makerAsk
  rw [if_pos h]
theorem ask_gap (ep last : Int) (l : List S_Mark) (e q : Int) (h : e > ep) (hq : q ≠ 0) : (makerAsk ep last l e q).1 = 3 := by
  unfold makerAsk
  rw [if_neg (by omega), if_pos h, if_neg hq]
/-- the marks that are kept: no mark of the same number stands ahead of the last -/
theorem find_last (q : Int) (l : List S_Mark) (o : Int) (h : ∀ x ∈ l, x.f0 ≠ q) : (l ++ [(⟨q, o⟩ : S_Mark)]).find? (fun x => decide (x.f0 = q)) = some ⟨q, o⟩ := by
  rw [List.find?_append, List.find?_eq_none.2 (fun x hx => by simpa using h x hx)]
  simp
theorem again (a b ep last : Int) (l : List S_Mark) (e q : Int) (hn : l.length ≤ 1048576) (hok : makerOk a b ep last l 5 = true) (hd : (makerAsk ep last l e q).1 = 0) :
    makerPut a b ep last l 3 e q 50 = (a, b, e, q, keepW 3 ((if e > ep then [] else l) ++ [⟨q, 50⟩])) ∧ makerAsk e q (keepW 3 ((if e > ep then [] else l) ++ [⟨q, 50⟩])) e q = (1, 50) := by
  constructor
  · unfold makerPut
    rw [if_pos hd]
  · have key : ∀ x ∈ (if e > ep then ([] : List S_Mark) else l), x.f0 ≠ q := by
      by_cases h : e > ep
      · rw [if_pos h]
        intro x hx
        simp at hx
      · rw [if_neg h]
        have hd2 := hd
        unfold makerAsk at hd2
        by_cases h2 : e < ep
        · rw [if_pos h2] at hd2
          simp at hd2
        · rw [if_neg h2, if_neg h] at hd2
          unfold makerOk at hok
          rw [Bool.and_eq_true] at hok
          have hlast : -1 ≤ last ∧ last ≤ 100000 := by
            have := hok.1
            unfold makerHead at this
            simp only [Bool.and_eq_true] at this
            exact inb_true.1 this.2.2.2.1
          have hlen : (l.length : Int) ≤ 5 := by
            have := hok.1
            unfold makerHead at this
            simp only [Bool.and_eq_true] at this
            exact of_decide_eq_true this.2.2.2.2.1
          have hq : q > last := by
            by_cases h3 : q > last
            · exact h3
            · rw [if_neg h3] at hd2
              exfalso
              revert hd2
              cases l.find? (fun x => decide (x.f0 = q)) <;> simp [askOf]
          intro x hx
          obtain ⟨j, hj, rfl⟩ := List.getElem_of_mem hx
          have hm := allMk_at last l l.length 0 hok.2 j (by omega) (by omega)
          unfold markAt at hm
          rw [Bool.and_eq_true] at hm
          have hf := of_decide_eq_true hm.1
          rw [rdM l j hj] at hf
          have e1 : wrap64 (last - (l.length : Int)) = last - (l.length : Int) := w64 (by omega) (by omega)
          have e2 : wrap64 (last - (l.length : Int) + 1) = last - (l.length : Int) + 1 := w64 (by omega) (by omega)
          have e3 : wrap64 (last - (l.length : Int) + 1 + (j : Int)) = last - (l.length : Int) + 1 + (j : Int) := w64 (by omega) (by omega)
          rw [e1, e2, e3] at hf
          omega
    unfold makerAsk
    rw [if_neg (by omega), if_neg (by omega), if_neg (by omega)]
    generalize (if e > ep then ([] : List S_Mark) else l) = l' at key
    have hl : (l' ++ [(⟨q, 50⟩ : S_Mark)]).length = l'.length + 1 := by simp
    have hw : keepW 3 (l' ++ [(⟨q, 50⟩ : S_Mark)]) = l'.drop (((l' ++ [(⟨q, 50⟩ : S_Mark)]).length : Int) - mx 3 0).toNat ++ [(⟨q, 50⟩ : S_Mark)] := by
      unfold keepW
      rw [List.drop_append_of_le_length]
      unfold mx
      rw [if_neg (by omega), hl]
      omega
    rw [hw, find_last q _ 50 (fun x hx => key x (List.mem_of_mem_drop hx))]
    rfl
theorem FnFenced (l : List Int) (_ : l.length ≤ maxLen ∧ ∀ y ∈ l, (Lit.int .u8 y).wf = true) : ∃ k, laws_FnFenced.f k l = some true := by
  refine Ev.rounds (g := fun k => laws_FnFenced.f k l) ?_
  refine ev_some rfl (ev_ite (fun _ => ev_now rfl) (fun hb => ?_))
  have hl : l.length ≤ 1048576 := by
    have : ¬ ((l.length : Int) > 1048576) := by simpa using hb
    omega
  obtain ⟨⟨a, b, ep, last, m, e, q⟩, hx, xm⟩ := drawMakerAsk l hl
  simp only at xm
  have e1 := implMakerAsk a b ep last e q m (by omega)
  have e2 := specMakerAsk a b ep last e q m (by omega)
  have hf := ask_fenced ep last m e q
  have hg := ask_gap ep last m e q
  have ha := again a b ep last m e q (by omega)
  have e3 := implMakerPut a b ep last m 3 e q 50 (by omega) (by omega)
  have hno : (makerAsk ep last m e q).1 ≠ 0 → makerPut a b ep last m 3 e q 50 = (a, b, ep, last, m) := fun h => by unfold makerPut; rw [if_neg h]
  refine ev_step (fun _ => by rw [laws_FnFenced.j0]) ?_
  refine ev_bind hx (ev_bind e1 (ev_bind e2 (ev_pos rfl ?_)))
  refine ev_step (fun _ => by rw [laws_FnFenced.j1]) ?_
  refine ev_neg (by simp) (ev_step (fun _ => by rw [laws_FnFenced.j2]) ?_)
  have j3 : ∀ c : Bool, c = false → Ev (fun k => laws_FnFenced.j3 k e q (makerAsk ep last m e q).1 c a b ep last m) true := fun c hc => by
    refine ev_step (fun _ => by rw [laws_FnFenced.j3]) ?_
    refine ev_neg (by simp [hc]) (ev_step (fun _ => by rw [laws_FnFenced.j4]) ?_)
    refine ev_bind (implMakerOk a b ep last m 5 (by omega)) (ev_ite (fun hok => ?_) (fun _ => ev_now rfl))
    refine ev_step (fun _ => by rw [laws_FnFenced.j5]) ?_
    refine ev_bind e3 (ev_ite (fun hd => ?_) (fun hd => ?_))
    · obtain ⟨p1, p2⟩ := ha hok hd
      rw [p1]
      refine ev_step (fun _ => by rw [laws_FnFenced.j6]) ?_
      have hlen : (keepW 3 ((if e > ep then [] else m) ++ [(⟨q, 50⟩ : S_Mark)])).length ≤ 1048576 := by
        refine Nat.le_trans (keepW_len _ _) ?_
        split
        · simp
        · simp
          omega
      have e4 := implMakerAsk a b e q e q (keepW 3 ((if e > ep then [] else m) ++ [(⟨q, 50⟩ : S_Mark)])) hlen
      rw [p2] at e4
      exact ev_bind e4 (ev_pos rfl (ev_pos rfl (ev_pos rfl (ev_now (by simp)))))
    · rw [hno hd]
      exact ev_bind (sameMaker a b ep last m (by omega)) (ev_now rfl)
  by_cases h1 : e < ep
  · refine ev_pos h1 (ev_pos (hf h1) (ev_neg (show ¬ e > ep by omega) (j3 _ rfl)))
  · refine ev_neg h1 ?_
    by_cases h2 : e > ep
    · refine ev_pos h2 ?_
      by_cases h3 : q = 0
      · exact ev_pos h3 (j3 _ rfl)
      · exact ev_neg h3 (j3 _ (by rw [hg h2 h3]; rfl))
    · exact ev_neg h2 (j3 _ rfl)
end Go.Proofs.Ytgkeapbeogmfjaa.Pure

/- The law FnFenced: its statement holds, for all arguments. Made by a program of ours out of the plain theorem and the walk. No condition. -/
namespace Go.Proofs.Ytgkeapbeogmfjaa.fnFenced
open Go.ChangeShapes Go.WideShapes Go.ChangeAt Go.RowKit Go.Proofs.YtgkeapbeogmfjaaW.PrintWords Go.Proofs.Ytgkeapbeogmfjaa.Q Go.Proofs.Ytgkeapbeogmfjaa.R
open Go.ChangeMaps (open_string shut_string)
set_option linter.unusedVariables false
theorem own : ownKnob Try.prog.godebug = none := by kernel_rfl
theorem laidOut : laidOutB Try.prog = true := by kernel_rfl
set_option maxRecDepth 100000 in
theorem lifted (os : Os) (started : os.Started) (H : Type) (enc : TypeId × Value → H) :
    ReturnsInHanded {} Try.checked os 11 .any (Rows.fnFencedSpec.pre6 enc Try.prog Try.f11 Rows.fnFencedRow.domain false) (Rows.fnFencedSpec.post enc Try.prog Try.f11 false true false false) := by
  refine returnsInHanded_of_change_sized (C := Try.checked) own started (by kernel_rfl) Try.func11
    (ChangeSpec.witness6 (enc := enc) (C := Try.checked) false ⟨#[], #[.slice none 0 0], []⟩ 8 (by kernel_rfl) (by kernel_rfl) (by kernel_rfl) (by kernel_rfl)) ?_
  intro W base args ds gs before hval0 hW hcnd hsz0 _
  have hval : ∀ (j : Nat) t v, Try.f11.params[j]? = some t → args[j]? = some v → Value.okWide Try.prog W .any base t v := hval0
  have hW' := hW
  obtain ⟨p, q, hA0, hV, rfl, hfz, hnd⟩ := hW
  have hA : DataW.TrodAll enc Try.prog W 0 (fun _ => true) true Try.f11.params.toList args.toList ds p := hA0
  rw [Try.params11] at hA hval
  obtain ⟨v0, vs0, d0, ds0, p0, q0, hargs, rfl, rfl, h0, r0⟩ := trodAll_cons hA
  obtain ⟨rfl, rfl, rfl⟩ := trodAll_nil r0
  obtain rfl : args = #[v0] := by cases args; simp_all
  obtain ⟨rfl, rfl⟩ := trodVars_none hV
  have k0 := h0
  have lt0 : ∀ x ∈ p0, x.block < W.heap.size := by obtain ⟨m, hm⟩ := k0; exact DataW.trod_lt m _ _ _ hm
  obtain ⟨A0, len0, c0, rfl⟩ := okWide_slice Try.underlying61 (hval 0 61 v0 rfl rfl)
  obtain ⟨fuel0, hf0⟩ := h0
  obtain ⟨l0, ⟨A0', c0', hz0, hc0, hr0⟩, w0⟩ := (rd_slice Try.underlying61 (by kernel_rfl) (rd_int Try.underlying5)) H enc W 0 (fun _ => true) true fuel0 _ _ hf0
  obtain ⟨rfl, rfl, rfl⟩ : A0 = A0' ∧ len0 = l0.length ∧ c0 = c0' := by simpa [Value.cells] using hz0
  clear hA0 hval0 hsz0
  obtain ⟨k, hk⟩ := Pure.FnFenced l0 w0
  refine (laws_FnFenced.calls (w := W) (hr0 := hr0) (hc0 := hc0) (h := hk)).mono fun e W' he => ?_
  obtain ⟨rfl, bel0⟩ := he
  have bel : Below W.heap.size W W' := by first | exact bel0 | exact Drawn0.below bel0
  exact ⟨_, rfl, _, _, _, [], _, [], hW', trodAll_mk1 (shut_bool Try.underlying4 _), (trodAll_cons_mk (Below.trod laidOut (by kernel_rfl) (of_decide_eq_true (by kernel_rfl)) k0 bel lt0) trodAll_mk0), rfl, bel.frame _, fun h => by cases h⟩
theorem over : Rows.fnFencedRow.holds Try.pinned (OpenSpec.ofChange Rows.fnFencedSpec) :=
  OpenClaim.holds_of_wide 11 Try.f11 rfl rfl rfl rfl rfl rfl rfl ⟨rfl, rfl, rfl, rfl, rfl⟩ rfl rfl rfl rfl rfl (by kernel_rfl) Try.func11 (by kernel_rfl)
    (of_decide_eq_true (by kernel_rfl)) (by unfold Func.isWrapper; first | (rw [if_pos (by decide +kernel)]; kernel_rfl) | (rw [if_neg (by decide +kernel)]; exact ⟨rfl, rfl⟩))
    (fun os started H enc _ => lifted os started H enc)
end Go.Proofs.Ytgkeapbeogmfjaa.fnFenced
namespace Go.Proofs.Ytgkeapbeogmfjaa
/-- The row, under a short name, for the claim. -/
theorem fnFenced_holds : Rows.FnFencedSaid := fnFenced.over
#print axioms fnFenced_holds
end Go.Proofs.Ytgkeapbeogmfjaa

