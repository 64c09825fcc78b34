/- The law FnTrimmed holds, for all arguments: its row, and behind it the plain side of what the program and the reference compute. Conditions: those that each theorem states; the row has none. -/
import Derived.Test.YthmjhhkheohgfaaRows
import Derived.Deep.Slices
import Derived.ChangeArms
import Derived.WideShapes
import Derived.Laws.BitsLemmas
import Derived.WalkKit
import Derived.ProofKit
import Derived.OpenShut
import Derived.ShutString
import Derived.ChangeOld
import Derived.Below
import Derived.SizedLaws
import Derived.Test.YthmjhhkheohgfaaZFnTrimmed0
import Derived.Test.YthmjhhkheohgfaaZFnTrimmeda
import Derived.Test.YthmjhhkheohgfaaZFnTrimmedb
import Derived.Test.YthmjhhkheohgfaaZFnTrimmedc
import Derived.Test.YthmjhhkheohgfaaZFnTrimmedd
import Derived.Test.YthmjhhkheohgfaaZFnTrimmede
import Derived.Test.YthmjhhkheohgfaaZFnTrimmedf
/- What is read as data is of a printed kind: whole numbers, texts, structs of one-cell fields, slices. For the laws' rows. No condition. -/
namespace Go.Proofs.Ythmjhhkheohgfaa.R
open Go.RowKit Go.Proofs.YthmjhhkheohgfaaW.PrintWords Go.WideShapes

/-- Whatever is read as data of type t has cells that are of kind d. -/
def Rd {α : Type} (P : Program) (t : TypeId) (d : Kd α) (wf : α → Prop) : Prop :=
  ∀ (H : Type) (enc : TypeId × Value → H) (W : World) (base : Nat) (spare : Nat → Bool) (held : Bool) (fuel : Nat) (cs : List Value) (x : DataW H × List MemPlace),
    DataW.trod enc P W base spare held fuel t cs = some x → ∃ a, d.K W a cs ∧ wf a
theorem rd_int {P : Program} {t : TypeId} {k : IntKind} (ht : P.underlying t = some (.int k)) : Rd P t (Kd.int k) (fun n => (Lit.int k n).wf = true) := by
  intro H enc W base spare held fuel cs x h
  obtain ⟨n, rfl, _, hw⟩ := DataW.trod_int ht h
  exact ⟨n, rfl, hw⟩
theorem rd_string {P : Program} {t : TypeId} (ht : P.underlying t = some .string) : Rd P t Kd.string (fun s => s.size ≤ maxLen) := by
  intro H enc W base spare held fuel cs x h
  obtain ⟨s, rfl, _, hw⟩ := DataW.trod_string ht h
  exact ⟨s, rfl, hw⟩
theorem rd_slice {α : Type} {P : Program} {t e : TypeId} {d : Kd α} {wf : α → Prop} (ht : P.underlying t = some (.slice e)) (hs : P.cellsOf e = d.sz) (hr : Rd P e d wf) :
    Rd P t (Kd.slice e d) (fun xs => xs.length ≤ maxLen ∧ ∀ x ∈ xs, wf x) := by
  intro H enc W base spare held fuel cs x h
  rcases Go.Deep.open_slice ht h with ⟨rfl, _⟩ | ⟨a, len, cap, m, n, D, Pl, rfl, hb, hl, hm, hmm, _, hx⟩
  · exact ⟨[], ⟨none, 0, rfl, Nat.le_refl _, rfl, by simp, fun h0 => absurd h0 (by simp)⟩, by simp, by simp⟩
  · have hml : len ≤ m := by rw [hmm]; split <;> omega
    have key : ∀ i, i < len → ∃ p : α, wf p ∧ ∃ c, c.length = d.sz ∧ d.K W p c ∧ ∀ q u, c[q]? = some u → W.cell? (a.add (i * d.sz + q)) = some u := by
      intro i hi
      obtain ⟨cs', h1, h2⟩ := hx i (by omega)
      obtain ⟨p, hp, hw⟩ := hr H enc W base spare held n cs' _ h2
      obtain ⟨_, hlen, hc⟩ := World.cells?_some h1
      rw [hs] at hlen hc
      refine ⟨p, hw, cs', hlen, hp, fun q u hq => ?_⟩
      have hq' : q < d.sz := by
        have := (List.getElem?_eq_some_iff.1 hq).1
        omega
      rw [← hq, ← hc q hq', Go.Deep.add_add]
    have key2 : ∃ f : Nat → Option α, ∀ i, i < len → ∃ p, f i = some p ∧ wf p ∧ ∃ c, c.length = d.sz ∧ d.K W p c ∧ ∀ q u, c[q]? = some u → W.cell? (a.add (i * d.sz + q)) = some u := by
      classical
      refine ⟨fun i => if hi : i < len then some (Classical.choose (key i hi)) else none, fun i hi => ⟨Classical.choose (key i hi), by simp [hi], Classical.choose_spec (key i hi)⟩⟩
    obtain ⟨f, hf⟩ := key2
    have hlen : ∀ k, k ≤ len → ((List.range k).filterMap f).length = k ∧ ∀ j, j < k → ((List.range k).filterMap f)[j]? = f j := by
      intro k
      induction k with
      | zero => intro _; exact ⟨rfl, fun j hj => absurd hj (by omega)⟩
      | succ k ih =>
        intro hk
        obtain ⟨i1, i2⟩ := ih (by omega)
        obtain ⟨p, hp, _⟩ := hf k (by omega)
        have e : (List.range (k + 1)).filterMap f = (List.range k).filterMap f ++ [p] := by rw [List.range_succ, List.filterMap_append]; simp [hp]
        refine ⟨by rw [e]; simp [i1], fun j hj => ?_⟩
        rw [e]
        rcases Nat.lt_or_ge j k with h1 | h1
        · rw [List.getElem?_append_left (by omega)]; exact i2 j h1
        · obtain rfl : j = k := by omega
          rw [List.getElem?_append_right (by omega), i1]; simp [hp]
    obtain ⟨i1, i2⟩ := hlen len (Nat.le_refl _)
    refine ⟨(List.range len).filterMap f, ⟨some a, cap, by rw [i1], by rw [i1]; exact hl, rfl, by rw [i1]; simp only [maxLen] at hm; omega, fun _ => ⟨a, rfl, fun j p hj => ?_⟩⟩, by rw [i1]; omega, fun p hp => ?_⟩
    · have hj' : j < len := by
        have := (List.getElem?_eq_some_iff.1 hj).1
        omega
      obtain ⟨p', hp', _, hc⟩ := hf j hj'
      rw [i2 j hj', hp'] at hj
      cases hj
      exact hc
    · obtain ⟨i, hi, hfi⟩ := List.mem_filterMap.1 hp
      obtain ⟨p', hp', hw, _⟩ := hf i (by simpa using hi)
      rw [hp'] at hfi
      cases hfi
      exact hw
/-- The fields of a struct, each of one cell, cell by cell. -/
theorem rd_fields {H : Type} {enc : TypeId × Value → H} {P : Program} {W : World} {base : Nat} {spare : Nat → Bool} {held : Bool} {fuel : Nat} {t : TypeId} {fs : Array Field} {cs : List Value} {x : DataW H × List MemPlace}
    (ht : P.underlying t = some (.struct fs)) (h : DataW.trod enc P W base spare held fuel t cs = some x) : cs.length = P.cellsOf t ∧ ∃ n, ∀ (i : Nat) (f : Field), fs[i]? = some f → ∃ y, DataW.trod enc P W base spare held n f.type ((cs.drop f.offset).take (P.cellsOf f.type)) = some y := by
  obtain ⟨xs, n, _, _, hl, hlen, hf⟩ := DataW.trod_struct ht h
  refine ⟨hl, n, fun i f hi => ?_⟩
  have hi' : i < xs.length := by
    rw [hlen]
    exact (Array.getElem?_eq_some_iff.1 hi).1
  exact ⟨xs[i], by rw [hf i f hi, List.getElem?_eq_getElem hi']⟩
end Go.Proofs.Ythmjhhkheohgfaa.R

/- How the laws' arguments of this seat are opened: what is read as data has the cells that the walks want. No condition. -/
namespace Go.Proofs.Ythmjhhkheohgfaa.R
open Go.RowKit Go.Proofs.YthmjhhkheohgfaaW.PrintWords Go.WideShapes Go.Proofs.Ythmjhhkheohgfaa.Q
set_option linter.unusedVariables false
theorem cells_3 {cs : List Value} (h : cs.length = 3) : ∃ z0 z1 z2, cs = [z0, z1, z2] := by
  match cs, h with
  | [y0, y1, y2], _ => exact ⟨y0, y1, y2, rfl⟩
theorem cells_5 {cs : List Value} (h : cs.length = 5) : ∃ z0 z1 z2 z3 z4, cs = [z0, z1, z2, z3, z4] := by
  match cs, h with
  | [y0, y1, y2, y3, y4], _ => exact ⟨y0, y1, y2, y3, y4, rfl⟩
def WF_LItem (x : S_LItem) : Prop := ((Lit.int .i64 x.f0).wf = true) ∧ (x.f1.size ≤ maxLen) ∧ (x.f2.size ≤ maxLen) ∧ ((Lit.int .i64 x.f3).wf = true) ∧ ((Lit.int .i64 x.f4).wf = true)
theorem rd_LItem : Rd Try.prog 136 k_LItem WF_LItem := by
  intro H enc W base spare held fuel cs x h
  obtain ⟨hl, n, hf⟩ := rd_fields Try.underlying136 h
  have hl' : cs.length = 5 := hl.trans (by kernel_rfl)
  obtain ⟨z0, z1, z2, z3, z4, rfl⟩ := cells_5 hl'
  have cc3 : Try.prog.cellsOf 3 = 1 := by kernel_rfl
  have cc9 : Try.prog.cellsOf 9 = 1 := by kernel_rfl
  obtain ⟨e0, he0⟩ := hf 0 _ rfl
  have hc0 : DataW.trod enc Try.prog W base spare held n 3 [z0] = some e0 := by simpa [cc3] using he0
  obtain ⟨b0, hk0, w0⟩ := (rd_int Try.underlying3) H enc W base spare held n [z0] _ hc0
  obtain rfl : z0 = .int .i64 b0 := by injection hk0
  obtain ⟨e1, he1⟩ := hf 1 _ rfl
  have hc1 : DataW.trod enc Try.prog W base spare held n 9 [z1] = some e1 := by simpa [cc9] using he1
  obtain ⟨b1, hk1, w1⟩ := (rd_string Try.underlying9) H enc W base spare held n [z1] _ hc1
  obtain rfl : z1 = .string b1 := by injection hk1
  obtain ⟨e2, he2⟩ := hf 2 _ rfl
  have hc2 : DataW.trod enc Try.prog W base spare held n 9 [z2] = some e2 := by simpa [cc9] using he2
  obtain ⟨b2, hk2, w2⟩ := (rd_string Try.underlying9) H enc W base spare held n [z2] _ hc2
  obtain rfl : z2 = .string b2 := by injection hk2
  obtain ⟨e3, he3⟩ := hf 3 _ rfl
  have hc3 : DataW.trod enc Try.prog W base spare held n 3 [z3] = some e3 := by simpa [cc3] using he3
  obtain ⟨b3, hk3, w3⟩ := (rd_int Try.underlying3) H enc W base spare held n [z3] _ hc3
  obtain rfl : z3 = .int .i64 b3 := by injection hk3
  obtain ⟨e4, he4⟩ := hf 4 _ rfl
  have hc4 : DataW.trod enc Try.prog W base spare held n 3 [z4] = some e4 := by simpa [cc3] using he4
  obtain ⟨b4, hk4, w4⟩ := (rd_int Try.underlying3) H enc W base spare held n [z4] _ hc4
  obtain rfl : z4 = .int .i64 b4 := by injection hk4
  exact ⟨⟨b0, b1, b2, b3, b4⟩, k_LItem_mk W ⟨b0, b1, b2, b3, b4⟩ , ⟨w0, w1, w2, w3, w4⟩⟩
theorem open_LRow {H : Type} {enc : TypeId × Value → H} {W : World} {base : Nat} {spare : Nat → Bool} {held : Bool} {fuel : Nat} {cs : List Value} {x : DataW H × List MemPlace} (h : DataW.trod enc Try.prog W base spare held fuel 56 cs = some x) :
    ∃ (b0 : Int) (b1 : Int) (b2 : List S_LItem) (A2 : Option Addr) (c2 : Nat), cs = [.int .i64 b0, .int .i64 b1, .slice A2 b2.length c2] ∧ ((Lit.int .i64 b0).wf = true) ∧ ((Lit.int .i64 b1).wf = true) ∧ (b2.length ≤ maxLen ∧ ∀ y ∈ b2, WF_LItem y) ∧ b2.length ≤ c2 ∧ Kd.C k_LItem W A2 b2.length b2 := by
  obtain ⟨hl, n, hf⟩ := rd_fields Try.underlying56 h
  have hl' : cs.length = 3 := hl.trans (by kernel_rfl)
  obtain ⟨z0, z1, z2, rfl⟩ := cells_3 hl'
  have cc3 : Try.prog.cellsOf 3 = 1 := by kernel_rfl
  have cc54 : Try.prog.cellsOf 54 = 1 := by kernel_rfl
  obtain ⟨e0, he0⟩ := hf 0 _ rfl
  have hc0 : DataW.trod enc Try.prog W base spare held n 3 [z0] = some e0 := by simpa [cc3] using he0
  obtain ⟨b0, hk0, w0⟩ := (rd_int Try.underlying3) H enc W base spare held n [z0] _ hc0
  obtain rfl : z0 = .int .i64 b0 := by injection hk0
  obtain ⟨e1, he1⟩ := hf 1 _ rfl
  have hc1 : DataW.trod enc Try.prog W base spare held n 3 [z1] = some e1 := by simpa [cc3] using he1
  obtain ⟨b1, hk1, w1⟩ := (rd_int Try.underlying3) H enc W base spare held n [z1] _ hc1
  obtain rfl : z1 = .int .i64 b1 := by injection hk1
  obtain ⟨e2, he2⟩ := hf 2 _ rfl
  have hc2 : DataW.trod enc Try.prog W base spare held n 54 [z2] = some e2 := by simpa [cc54] using he2
  obtain ⟨b2, hk2, w2⟩ := (rd_slice Try.underlying54 (by kernel_rfl) rd_LItem) H enc W base spare held n [z2] _ hc2
  obtain ⟨A2, c2, hz2, l2, g2⟩ := hk2
  obtain rfl : z2 = .slice A2 b2.length c2 := by injection hz2
  exact ⟨b0, b1, b2, A2, c2, rfl, w0, w1, w2, l2, g2⟩
end Go.Proofs.Ythmjhhkheohgfaa.R

/- Small words for plain proofs: what comes to its answer at enough rounds, one step at a time; whole numbers of 64 bits. No condition. -/
namespace Go.Proofs.Ythmjhhkheohgfaa.L
open Go.RowKit Go.Proofs.YthmjhhkheohgfaaW.PrintWords Go.Proofs.YthmjhhkheohgfaaW.PrintLast Go.Proofs.YthmjhhkheohgfaaW.PrintMore

theorem ev_pos {α : Type} {c : Prop} [Decidable c] {f g : Nat → Option α} {r : α} (h : c) (k : Ev f r) : Ev (fun n => if c then f n else g n) r := by
  simpa only [if_pos h] using k
theorem ev_neg {α : Type} {c : Prop} [Decidable c] {f g : Nat → Option α} {r : α} (h : ¬ c) (k : Ev g r) : Ev (fun n => if c then f n else g n) r := by
  simpa only [if_neg h] using k
theorem ev_ite {α : Type} {c : Prop} [Decidable c] {f g : Nat → Option α} {r : α} (h : c → Ev f r) (k : ¬ c → Ev g r) : Ev (fun n => if c then f n else g n) r := by
  by_cases hc : c
  · exact ev_pos hc (h hc)
  · exact ev_neg hc (k hc)
theorem ev_some {α β : Type} {g : Option α} {f : Nat → α → Option β} {a : α} {r : β} (h : g = some a) (k : Ev (fun n => f n a) r) : Ev (fun n => g.bind (f n)) r := by
  subst h
  exact k
theorem ev_bind {α β : Type} {g : Nat → Option α} {f : Nat → α → Option β} {a : α} {r : β} (h : Ev g a) (k : Ev (fun n => f n a) r) : Ev (fun n => (g n).bind (f n)) r := Ev.bind h k
/-- one round more -/
theorem ev_step {α : Type} {g f : Nat → Option α} {r : α} (h : ∀ k, g (k + 1) = f k) (k : Ev f r) : Ev g r := Ev.step h k
theorem ev_eq {α : Type} {g : Nat → Option α} {r r' : α} (h : r = r') (k : Ev g r) : Ev g r' := h ▸ k
theorem ev_now {α : Type} {r r' : α} (h : r = r') : Ev (fun _ => some r) r' := h ▸ Ev.now r

theorem w64 {x : Int} (h0 : -9223372036854775808 ≤ x) (h1 : x ≤ 9223372036854775807) : wrap64 x = x := by
  unfold wrap64
  omega
theorem rd_eq (xs : List Int) (i : Nat) (h : i < xs.length) : rd xs (i : Int) = xs[i] := by
  simp [rd, List.getD_eq_getElem?_getD, h]
end Go.Proofs.Ythmjhhkheohgfaa.L

/- The plain side of numbers within bounds: program and reference come to one answer. No condition. -/
namespace Go.Proofs.Ythmjhhkheohgfaa.L
open Go.RowKit Go.Proofs.YthmjhhkheohgfaaW.PrintWords Go.Proofs.YthmjhhkheohgfaaW.PrintLast Go.Proofs.YthmjhhkheohgfaaW.PrintMore Go.Proofs.Ythmjhhkheohgfaa.Q

/-- is a number within bounds -/
def inb (x a b : Int) : Bool := decide (a ≤ x) && decide (x ≤ b)
theorem specIn (x a b : Int) : spec_l1In.f x a b = some (inb x a b) := by
  unfold spec_l1In.f inb
  by_cases h : x ≥ a
  · rw [if_pos h]; simp [show a ≤ x from h]
  · rw [if_neg h]; simp [show ¬ a ≤ x from h]
theorem implIn (x a b : Int) : impl_within.f x a b = some (inb x a b) := by
  unfold impl_within.f inb
  by_cases h : x ≥ a
  · rw [if_pos h]; simp [show a ≤ x from h]
  · rw [if_neg h]; simp [show ¬ a ≤ x from h]
theorem inb_true {x a b : Int} : inb x a b = true ↔ a ≤ x ∧ x ≤ b := by simp [inb]
theorem ev_and {g : Nat → Option Bool} {c d : Bool} (h : c = true → Ev g d) : Ev (fun n => if c = true then (g n) else some false) (c && d) := by
  cases c with
  | false => exact ev_neg (by simp) (ev_now rfl)
  | true => exact ev_pos rfl (by simpa using h rfl)

end Go.Proofs.Ythmjhhkheohgfaa.L

/- The plain side of right texts: program and reference come to one answer. Condition: texts of at most 2^63 - 1 bytes, as any text that is read. -/
namespace Go.Proofs.Ythmjhhkheohgfaa.L
open Go.RowKit Go.Proofs.YthmjhhkheohgfaaW.PrintWords Go.Proofs.YthmjhhkheohgfaaW.PrintLast Go.Proofs.YthmjhhkheohgfaaW.PrintMore Go.Proofs.Ythmjhhkheohgfaa.Q

/-- may a byte stand in a text -/
def okB (b : Int) : Prop := 97 ≤ b ∧ b ≤ 122 ∨ 48 ≤ b ∧ b ≤ 57 ∨ b = 32
instance (b : Int) : Decidable (okB b) := by unfold okB; infer_instance
/-- are all bytes from i on right -/
def okFrom (s : ByteArray) : Nat → Nat → Bool
  | 0, _ => true
  | d + 1, i => decide (okB (bt s i)) && okFrom s d (i + 1)
/-- what wordsOk comes to -/
def words (s : ByteArray) : Bool := okFrom s s.size 0 && decide ((s.size : Int) ≤ 30)
theorem specText_l0 (s : ByteArray) (hs : s.size ≤ 9223372036854775807) : ∀ (d i : Nat), i + d = s.size → Ev (fun k => spec_l2Text.l0 k s (i : Int)) (okFrom s d i && decide ((s.size : Int) ≤ 30)) := by
  intro d
  induction d with
  | zero => intro i h; exact ev_step (fun _ => rfl) (ev_neg (by omega) (ev_now (by simp [okFrom])))
  | succ d ih =>
    intro i h
    have e : wrap64 ((i : Int) + 1) = ((i + 1 : Nat) : Int) := by rw [w64 (by omega) (by omega)]; omega
    have cont : okB (bt s i) → Ev (fun k => spec_l2Text.l0 k s (wrap64 ((i : Int) + 1))) (okFrom s (d + 1) i && decide ((s.size : Int) ≤ 30)) := fun q => by rw [e]; simpa [okFrom, q] using ih (i + 1) (by omega)
    have stop : ¬ okB (bt s i) → Ev (fun _ => some false) (okFrom s (d + 1) i && decide ((s.size : Int) ≤ 30)) := fun q => ev_now (by simp [okFrom, q])
    refine ev_step (fun _ => rfl) (ev_pos (by omega) (ev_pos (by omega) ?_))
    repeat' refine ev_ite (fun _ => ?_) (fun _ => ?_)
    all_goals first | (refine cont ?_; unfold okB; omega) | (refine stop ?_; unfold okB; omega)
theorem implText_l0 (s : ByteArray) (hs : s.size ≤ 9223372036854775807) : ∀ (d i : Nat), i + d = s.size → Ev (fun k => impl_wordsOk.l0 k s (i : Int)) (okFrom s d i && decide ((s.size : Int) ≤ 30)) := by
  intro d
  induction d with
  | zero => intro i h; exact ev_step (fun _ => rfl) (ev_neg (by omega) (ev_now (by simp [okFrom])))
  | succ d ih =>
    intro i h
    have e : wrap64 ((i : Int) + 1) = ((i + 1 : Nat) : Int) := by rw [w64 (by omega) (by omega)]; omega
    have cont : okB (bt s i) → Ev (fun k => impl_wordsOk.l0 k s (wrap64 ((i : Int) + 1))) (okFrom s (d + 1) i && decide ((s.size : Int) ≤ 30)) := fun q => by rw [e]; simpa [okFrom, q] using ih (i + 1) (by omega)
    have stop : ¬ okB (bt s i) → Ev (fun _ => some false) (okFrom s (d + 1) i && decide ((s.size : Int) ≤ 30)) := fun q => ev_now (by simp [okFrom, q])
    refine ev_step (fun _ => rfl) (ev_pos (by omega) (ev_pos (by omega) ?_))
    repeat' refine ev_ite (fun _ => ?_) (fun _ => ?_)
    all_goals first | (refine cont ?_; unfold okB; omega) | (refine stop ?_; unfold okB; omega)
theorem specWords (s : ByteArray) (hs : s.size ≤ 9223372036854775807) : Ev (fun k => spec_l2Text.f k s) (words s) := specText_l0 s hs s.size 0 (by omega)
theorem implWords (s : ByteArray) (hs : s.size ≤ 9223372036854775807) : Ev (fun k => impl_wordsOk.f k s) (words s) := implText_l0 s hs s.size 0 (by omega)
end Go.Proofs.Ythmjhhkheohgfaa.L

/- The plain side of the laws' own words on items and rows: copies, comparisons, sizes. Condition: lists of at most 2^20 elements behind the size's test. -/
namespace Go.Proofs.Ythmjhhkheohgfaa.L
open Go.RowKit Go.Proofs.YthmjhhkheohgfaaW.PrintWords Go.Proofs.YthmjhhkheohgfaaW.PrintLast Go.Proofs.YthmjhhkheohgfaaW.PrintMore Go.Proofs.Ythmjhhkheohgfaa.Q

theorem rdI (l : List S_Item) (i : Nat) (h : i < l.length) : rd_Item l (i : Int) = l[i] := by
  simp [rd_Item, List.getD_eq_getElem?_getD, h]
end Go.Proofs.Ythmjhhkheohgfaa.L

/- The plain side of RowOk: program and reference come to one answer. Condition: lists of at most 2^22 elements, texts as they are read. -/
namespace Go.Proofs.Ythmjhhkheohgfaa.L
open Go.RowKit Go.Proofs.YthmjhhkheohgfaaW.PrintWords Go.Proofs.YthmjhhkheohgfaaW.PrintLast Go.Proofs.YthmjhhkheohgfaaW.PrintMore Go.Proofs.Ythmjhhkheohgfaa.Q

/-- what is known of an item's texts -/
def okI (x : S_Item) : Prop := x.f1.size ≤ 9223372036854775807 ∧ x.f2.size ≤ 9223372036854775807
/-- is an item right by itself -/
def itemOk (x : S_Item) : Bool := words x.f1 && (words x.f2 && (inb x.f3 0 3 && inb x.f4 0 100000))
/-- is the item at i right in its row -/
def okAt (a b : Int) (l : List S_Item) (i : Nat) : Bool :=
  itemOk (rd_Item l (i : Int)) && (inb (rd_Item l (i : Int)).f0 a (wrap64 (b - 1)) && !(decide (0 < i) && decide ((rd_Item l ((i : Int) - 1)).f0 ≥ (rd_Item l (i : Int)).f0)))
def allAt (a b : Int) (l : List S_Item) : Nat → Nat → Bool
  | 0, _ => true
  | d + 1, i => okAt a b l i && allAt a b l d (i + 1)
/-- is a row right, its items left out -/
def rowHead (a b : Int) (l : List S_Item) : Bool := inb a 0 b && (decide (b ≤ 100000) && decide ((l.length : Int) ≤ 80))
def rowOk (a b : Int) (l : List S_Item) : Bool := allAt a b l l.length 0 && rowHead a b l
theorem specItemOk (x : S_Item) (hx : okI x) : Ev (fun k => spec_l3Item.f k x.f0 x.f1 x.f2 x.f3 x.f4) (itemOk x) :=
  ev_bind (specWords _ hx.1) (ev_and fun _ => ev_bind (specWords _ hx.2) (ev_and fun _ => ev_some (specIn _ _ _) (ev_and fun _ => ev_some (specIn _ _ _) (ev_now rfl))))
theorem specHead (a b : Int) (l : List S_Item) : Ev (fun k => spec_RowOk.j3 k a b l) (rowHead a b l) := by
  refine ev_step (fun _ => by rw [spec_RowOk.j3]) (ev_some (specIn _ _ _) (ev_and fun _ => ?_))
  by_cases h : b ≤ 100000
  · exact ev_pos h (ev_now (by simp [h]))
  · exact ev_neg h (ev_now (by simp [h]))
theorem specRow_l0 (a b : Int) (l : List S_Item) (hl : ∀ x ∈ l, okI x) (hn : l.length ≤ 4194304) : ∀ (d i : Nat), i + d = l.length → Ev (fun k => spec_RowOk.l0 k (i : Int) a b l) (allAt a b l d i && rowHead a b l) := by
  intro d
  induction d with
  | zero => intro i h; exact ev_step (fun _ => by rw [spec_RowOk.l0]) (ev_neg (by omega) (by simpa [allAt] using specHead a b l))
  | succ d ih =>
    intro i h
    have hm : okI (rd_Item l (i : Int)) := by rw [rdI l i (by omega)]; exact hl _ (List.getElem_mem _)
    have e : wrap64 ((i : Int) + 1) = ((i + 1 : Nat) : Int) := by rw [w64 (by omega) (by omega)]; omega
    have stop : ∀ c : Bool, c = true → okAt a b l i = false → Ev (fun k => spec_RowOk.j2 k (i : Int) c a b l) (allAt a b l (d + 1) i && rowHead a b l) := fun c hc q => ev_step (fun _ => by rw [spec_RowOk.j2]) (ev_pos hc (ev_now (by simp [allAt, q])))
    have cont : ∀ c : Bool, c = false → okAt a b l i = true → Ev (fun k => spec_RowOk.j2 k (i : Int) c a b l) (allAt a b l (d + 1) i && rowHead a b l) := fun c hc q => ev_step (fun _ => by rw [spec_RowOk.j2]) (ev_neg (by simp [hc]) (by rw [e]; simpa [allAt, q] using ih (i + 1) (by omega)))
    have hw : 0 < i → wrap64 ((i : Int) - 1) = (i : Int) - 1 := fun q => w64 (by omega) (by omega)
    refine ev_step (fun _ => by rw [spec_RowOk.l0]) (ev_pos (by omega) ?_)
    refine ev_step (fun _ => by rw [spec_RowOk.j1]) (ev_pos (by omega) (ev_pos (by omega) (ev_bind (specItemOk _ hm) ?_)))
    by_cases h1 : itemOk (rd_Item l (i : Int)) = true
    · refine ev_pos h1 (ev_some (specIn _ _ _) ?_)
      by_cases h2 : inb (rd_Item l (i : Int)).f0 a (wrap64 (b - 1)) = true
      · refine ev_pos h2 ?_
        by_cases h3 : 0 < i
        · refine ev_pos (by omega) ?_
          rw [hw h3]
          refine ev_pos (by omega) (ev_pos (by omega) ?_)
          by_cases h4 : (rd_Item l ((i : Int) - 1)).f0 ≥ (rd_Item l (i : Int)).f0
          · exact stop _ (by simpa using h4) (by simp [okAt, h3]; intro _ _; simpa using h4)
          · exact cont _ (by simpa using h4) (by simp [okAt, h1, h2]; exact Or.inr (by omega))
        · exact ev_neg (by omega) (cont _ rfl (by simp [okAt, h1, h2]; exact Or.inl (by omega)))
      · exact ev_neg h2 (stop _ rfl (by simp [okAt, h2]))
    · exact ev_neg h1 (stop _ rfl (by simp [okAt, h1]))
theorem specRowOk (a b : Int) (l : List S_Item) (hl : ∀ x ∈ l, okI x) (hn : l.length ≤ 4194304) : Ev (fun k => spec_RowOk.f k a b l) (rowOk a b l) := specRow_l0 a b l hl hn l.length 0 (by omega)
theorem implRow_l0 (a b : Int) (l : List S_Item) (hl : ∀ x ∈ l, okI x) (hn : l.length ≤ 4194304) : ∀ (d i : Nat), i + d = l.length → Ev (fun k => impl_RowOk.l0 k l (l.length : Int) (i : Int) a b l) (allAt a b l d i) := by
  intro d
  induction d with
  | zero =>
    intro i h
    refine ev_step (fun _ => by rw [impl_RowOk.l0]) ?_
    exact ev_neg (by omega) (ev_now rfl)
  | succ d ih =>
    intro i h
    have hm : okI (rd_Item l (i : Int)) := by rw [rdI l i (by omega)]; exact hl _ (List.getElem_mem _)
    have e : wrap64 ((i : Int) + 1) = ((i + 1 : Nat) : Int) := by rw [w64 (by omega) (by omega)]; omega
    have stop : ∀ c : Bool, c = true → okAt a b l i = false → Ev (fun k => impl_RowOk.j4 k l (l.length : Int) (i : Int) c a b l) (allAt a b l (d + 1) i) := fun c hc q => ev_step (fun _ => by rw [impl_RowOk.j4]) (ev_pos hc (ev_now (by simp [allAt, q])))
    have cont : ∀ c : Bool, c = false → okAt a b l i = true → Ev (fun k => impl_RowOk.j4 k l (l.length : Int) (i : Int) c a b l) (allAt a b l (d + 1) i) := fun c hc q => ev_step (fun _ => by rw [impl_RowOk.j4]) (ev_neg (by simp [hc]) (by rw [e]; simpa [allAt, q] using ih (i + 1) (by omega)))
    have hw : 0 < i → wrap64 ((i : Int) - 1) = (i : Int) - 1 := fun q => w64 (by omega) (by omega)
    refine ev_step (fun _ => by rw [impl_RowOk.l0]) (ev_pos (by omega) ?_)
    refine ev_step (fun _ => by rw [impl_RowOk.j3]) (ev_pos (by omega) (ev_pos (by omega) (ev_some (implIn _ _ _) ?_)))
    have hpre : inb (rd_Item l (i : Int)).f0 a (wrap64 (b - 1)) = true → (0 < i → ¬ (rd_Item l ((i : Int) - 1)).f0 ≥ (rd_Item l (i : Int)).f0) → okAt a b l i = itemOk (rd_Item l (i : Int)) := fun h2 h3 => by
      have : (!(decide (0 < i) && decide ((rd_Item l ((i : Int) - 1)).f0 ≥ (rd_Item l (i : Int)).f0))) = true := by
        by_cases q : 0 < i
        · simp [q]; simpa using h3 q
        · simp [q]
      rw [okAt, h2, this]
      simp
    by_cases h2 : inb (rd_Item l (i : Int)).f0 a (wrap64 (b - 1)) = true
    · refine ev_pos h2 ?_
      have body : okAt a b l i = itemOk (rd_Item l (i : Int)) → Ev (fun k => (impl_wordsOk.f k ((rd_Item l (i : Int)).f1)).bind fun t1 => if t1 = true then ((impl_wordsOk.f k ((rd_Item l (i : Int)).f2)).bind fun t2 => if t2 = true then ((impl_within.f ((rd_Item l (i : Int)).f3) 0 3).bind fun t3 => if t3 = true then ((impl_within.f ((rd_Item l (i : Int)).f4) 0 100000).bind fun t4 => impl_RowOk.j4 k l (l.length : Int) (i : Int) (!t4) a b l) else impl_RowOk.j4 k l (l.length : Int) (i : Int) true a b l) else impl_RowOk.j4 k l (l.length : Int) (i : Int) true a b l) else impl_RowOk.j4 k l (l.length : Int) (i : Int) true a b l) (allAt a b l (d + 1) i) := fun hq => by
        refine ev_bind (implWords _ hm.1) ?_
        by_cases k1 : words (rd_Item l (i : Int)).f1 = true
        · refine ev_pos k1 (ev_bind (implWords _ hm.2) ?_)
          by_cases k2 : words (rd_Item l (i : Int)).f2 = true
          · refine ev_pos k2 (ev_some (implIn _ _ _) ?_)
            by_cases k3 : inb (rd_Item l (i : Int)).f3 0 3 = true
            · refine ev_pos k3 (ev_some (implIn _ _ _) ?_)
              by_cases k4 : inb (rd_Item l (i : Int)).f4 0 100000 = true
              · exact cont _ (by simp [k4]) (by rw [hq]; simp [itemOk, k1, k2, k3, k4])
              · exact stop _ (by simp [k4]) (by rw [hq]; simp [itemOk, k4])
            · exact ev_neg k3 (stop _ rfl (by rw [hq]; simp [itemOk, k3]))
          · exact ev_neg k2 (stop _ rfl (by rw [hq]; simp [itemOk, k2]))
        · exact ev_neg k1 (stop _ rfl (by rw [hq]; simp [itemOk, k1]))
      by_cases h3 : 0 < i
      · refine ev_pos (by omega) ?_
        rw [hw h3]
        refine ev_pos (by omega) (ev_pos (by omega) ?_)
        by_cases h4 : (rd_Item l ((i : Int) - 1)).f0 ≥ (rd_Item l (i : Int)).f0
        · exact ev_pos h4 (stop _ rfl (by simp [okAt, h3]; intro _ _; simpa using h4))
        · exact ev_neg h4 (body (hpre h2 fun _ => h4))
      · exact ev_neg (by omega) (body (hpre h2 fun q => absurd q h3))
    · exact ev_neg h2 (stop _ rfl (by simp [okAt, h2]))
theorem implRowOk (a b : Int) (l : List S_Item) (hl : ∀ x ∈ l, okI x) (hn : l.length ≤ 4194304) : Ev (fun k => impl_RowOk.f k a b l) (rowOk a b l) := by
  have go : ∀ c : Bool, Ev (fun k => impl_RowOk.j0 k c a b l) (!c && allAt a b l l.length 0) := fun c => by
    refine ev_step (fun _ => by rw [impl_RowOk.j0]) ?_
    cases c with
    | true => exact ev_pos rfl (ev_now rfl)
    | false =>
      refine ev_neg (by simp) (ev_step (fun _ => by rw [impl_RowOk.j1]) ?_)
      simpa using implRow_l0 a b l hl hn l.length 0 (by omega)
  refine ev_some (implIn _ _ _) ?_
  by_cases h1 : inb a 0 b = true
  · refine ev_pos h1 ?_
    by_cases h2 : b > 100000
    · exact ev_pos h2 (ev_eq (by simp [rowOk, rowHead, show ¬ b ≤ 100000 by omega]) (go true))
    · refine ev_neg h2 (ev_eq ?_ (go _))
      by_cases h3 : (l.length : Int) > 80
      · simp [rowOk, rowHead, show ¬ ((l.length : Int) ≤ 80) by omega, show (80 : Int) < (l.length : Int) by omega]
      · simp [rowOk, rowHead, h1, show b ≤ 100000 by omega, show (l.length : Int) ≤ 80 by omega, show ¬ ((80 : Int) < (l.length : Int)) by omega]
  · exact ev_neg h1 (ev_eq (by simp [rowOk, rowHead, h1]) (go true))
end Go.Proofs.Ythmjhhkheohgfaa.L

/- Copies of rows: program and reference come to the row itself. Condition: lists of at most 2^20 + 1 elements. -/
namespace Go.Proofs.Ythmjhhkheohgfaa.L
open Go.RowKit Go.Proofs.YthmjhhkheohgfaaW.PrintWords Go.Proofs.YthmjhhkheohgfaaW.PrintLast Go.Proofs.YthmjhhkheohgfaaW.PrintMore Go.Proofs.Ythmjhhkheohgfaa.Q

theorem specCopyRow (a b : Int) (l : List S_Item) (hn : l.length ≤ 1048577) : spec_l3Copy.f a b l = some (a, b, l) := by
  unfold spec_l3Copy.f
  simp only [Option.bind_some, List.length_nil, List.nil_append]
  rw [if_pos (by omega)]
theorem implCopyRow (a b : Int) (l : List S_Item) (hn : l.length ≤ 1048577) : impl_copyRow.f a b l = some (a, b, l) := by
  unfold impl_copyRow.f
  simp only [List.length_nil, List.nil_append]
  rw [if_pos (by omega)]
end Go.Proofs.Ythmjhhkheohgfaa.L

/- The plain side of Latest: program and reference come to one answer, the last item of a key. Condition: lists of at most 2^20 elements. -/
namespace Go.Proofs.Ythmjhhkheohgfaa.L
open Go.RowKit Go.Proofs.YthmjhhkheohgfaaW.PrintWords Go.Proofs.YthmjhhkheohgfaaW.PrintLast Go.Proofs.YthmjhhkheohgfaaW.PrintMore Go.Proofs.Ythmjhhkheohgfaa.Q

/-- an answer of Latest -/
def last : Option S_Item → Int × ByteArray × ByteArray × Int × Int × Bool
  | some x => (x.f0, x.f1, x.f2, x.f3, x.f4, true)
  | none => (0, ⟨#[]⟩, ⟨#[]⟩, 0, 0, false)
end Go.Proofs.Ythmjhhkheohgfaa.L

/- The plain side of RowPack: program and reference come to one answer. Condition: lists of at most 2^20 elements, texts as they are read. -/
namespace Go.Proofs.Ythmjhhkheohgfaa.L
open Go.RowKit Go.Proofs.YthmjhhkheohgfaaW.PrintWords Go.Proofs.YthmjhhkheohgfaaW.PrintLast Go.Proofs.YthmjhhkheohgfaaW.PrintMore Go.Proofs.Ythmjhhkheohgfaa.Q

/-- does an item of a key stand from i on -/
def beh (key : ByteArray) (l : List S_Item) : Nat → Nat → Bool
  | 0, _ => false
  | d + 1, i => decide ((rd_Item l (i : Int)).f1.toList = key.toList) || beh key l d (i + 1)
/-- is the item at i kept -/
def keepAt (n b : Int) (l : List S_Item) (i : Nat) : Bool :=
  decide ((rd_Item l (i : Int)).f1.toList = ([] : List UInt8)) || (!beh (rd_Item l (i : Int)).f1 l (l.length - (i + 1)) (i + 1) || decide (wrap64 (Int.tdiv (rd_Item l (i : Int)).f0 n) = wrap64 (Int.tdiv (wrap64 (b - 1)) n)))
def packL (n b : Int) (l : List S_Item) : Nat → Nat → List S_Item
  | 0, _ => []
  | d + 1, i => if keepAt n b l i = true then rd_Item l (i : Int) :: packL n b l d (i + 1) else packL n b l d (i + 1)
/-- what RowPack comes to -/
def rowPack (a b : Int) (l : List S_Item) (n : Int) : Int × Int × List S_Item := if 1 ≤ n ∧ rowOk a b l = true then (a, b, packL n b l l.length 0) else (a, b, l)
theorem behind_l0 (a b : Int) (l : List S_Item) (hn : l.length ≤ 1048576) (i : Nat) (hi : i < l.length) : ∀ (d j : Nat), j + d = l.length → Ev (fun k => spec_l3Behind.l0 k (i : Int) (j : Int) a b l) (beh (rd_Item l (i : Int)).f1 l d j) := by
  intro d
  induction d with
  | zero =>
    intro j h
    refine ev_step (fun _ => by rw [spec_l3Behind.l0]) ?_
    exact ev_neg (by omega) (ev_now rfl)
  | succ d ih =>
    intro j h
    have e : wrap64 ((j : Int) + 1) = ((j + 1 : Nat) : Int) := by rw [w64 (by omega) (by omega)]; omega
    refine ev_step (fun _ => by rw [spec_l3Behind.l0]) ?_
    refine ev_pos (by omega) (ev_pos (by omega) (ev_pos (by omega) (ev_pos (by omega) ?_)))
    rw [e]
    refine ev_ite (fun q => ev_now (by simp [beh, q])) (fun q => ?_)
    refine ev_eq ?_ (ih (j + 1) (by omega))
    simp [beh, q]
theorem behind (a b : Int) (l : List S_Item) (hn : l.length ≤ 1048576) (i : Nat) (hi : i < l.length) : Ev (fun k => spec_l3Behind.f k a b l (i : Int)) (beh (rd_Item l (i : Int)).f1 l (l.length - (i + 1)) (i + 1)) := by
  have e : wrap64 ((i : Int) + 1) = ((i + 1 : Nat) : Int) := by rw [w64 (by omega) (by omega)]; omega
  show Ev (fun k => spec_l3Behind.l0 k (i : Int) (wrap64 ((i : Int) + 1)) a b l) _
  rw [e]
  exact behind_l0 a b l hn i hi _ _ (by omega)
theorem specPack_l0 (a b n : Int) (l : List S_Item) (h1 : 1 ≤ n) (hn : l.length ≤ 1048576) : ∀ (d i : Nat) (acc : List S_Item), i + d = l.length → acc.length + d ≤ 1048576 →
    Ev (fun k => spec_RowPack.l0 k n (i : Int) a b l a b acc) (a, b, acc ++ packL n b l d i) := by
  intro d
  induction d with
  | zero =>
    intro i acc h q
    refine ev_step (fun _ => by rw [spec_RowPack.l0]) ?_
    exact ev_neg (by omega) (ev_now (by simp [packL]))
  | succ d ih =>
    intro i acc h q
    have e : wrap64 ((i : Int) + 1) = ((i + 1 : Nat) : Int) := by rw [w64 (by omega) (by omega)]; omega
    have put : ∀ c : Bool, c = keepAt n b l i → Ev (fun k => spec_RowPack.j4 k n (i : Int) c a b l a b acc (rd_Item l (i : Int)).f0 (rd_Item l (i : Int)).f1 (rd_Item l (i : Int)).f2 (rd_Item l (i : Int)).f3 (rd_Item l (i : Int)).f4) (a, b, acc ++ packL n b l (d + 1) i) := fun c hc => by
      refine ev_step (fun _ => by rw [spec_RowPack.j4]) ?_
      rw [e]
      cases hk : keepAt n b l i with
      | true =>
        rw [hk] at hc
        refine ev_pos hc (ev_pos (by omega) (ev_eq ?_ (ih (i + 1) (acc ++ [rd_Item l (i : Int)]) (by omega) (by simp only [List.length_append, List.length_singleton]; omega))))
        simp [packL, hk]
      | false =>
        rw [hk] at hc
        refine ev_neg (by simp [hc]) (ev_eq ?_ (ih (i + 1) acc (by omega) (by omega)))
        simp [packL, hk]
    refine ev_step (fun _ => by rw [spec_RowPack.l0]) ?_
    refine ev_pos (by omega) (ev_step (fun _ => by rw [spec_RowPack.j3]) ?_)
    refine ev_pos (by omega) (ev_pos (by omega) ?_)
    by_cases q1 : (rd_Item l (i : Int)).f1.toList = ([] : List UInt8)
    · exact ev_pos q1 (put true (by simp [keepAt, q1]))
    · refine ev_neg q1 (ev_bind (behind a b l hn i (by omega)) ?_)
      cases q2 : beh (rd_Item l (i : Int)).f1 l (l.length - (i + 1)) (i + 1) with
      | true =>
        refine ev_pos rfl (ev_neg (by omega) (put _ ?_))
        rw [keepAt, q2, decide_eq_false q1]
        simp only [Bool.not_true, Bool.false_or]
        exact Bool.beq_eq_decide_eq _ _
      | false => exact ev_neg (by simp) (put true (by rw [keepAt, q2]; simp))
theorem specRowPack (a b : Int) (l : List S_Item) (n : Int) (hl : ∀ x ∈ l, okI x) (hn : l.length ≤ 1048576) : Ev (fun k => spec_RowPack.f k a b l n) (rowPack a b l n) := by
  have no : ¬ (1 ≤ n ∧ rowOk a b l = true) → ∀ c : Bool, c = true → Ev (fun k => spec_RowPack.j0 k n c a b l) (rowPack a b l n) := fun q c hc => by
    refine ev_step (fun _ => by rw [spec_RowPack.j0]) ?_
    exact ev_pos hc (ev_some (specCopyRow a b l (by omega)) (ev_now (by unfold rowPack; rw [if_neg q])))
  refine ev_ite (fun h => no (by omega) _ rfl) (fun h => ev_bind (specRowOk a b l hl (by omega)) ?_)
  cases hok : rowOk a b l with
  | false => exact no (by rw [hok]; simp) _ rfl
  | true =>
    refine ev_step (fun _ => by rw [spec_RowPack.j0]) ?_
    refine ev_neg (by simp) (ev_step (fun _ => by rw [spec_RowPack.j1]) ?_)
    refine ev_eq ?_ (specPack_l0 a b n l (by omega) hn l.length 0 [] (by omega) (by simpa using hn))
    unfold rowPack
    rw [if_pos ⟨by omega, hok⟩]
    rfl
end Go.Proofs.Ythmjhhkheohgfaa.L

/- Rows that are right, said of all their items, and what packing keeps of them. No program in sight but the plain words for it. -/
namespace Go.Proofs.Ythmjhhkheohgfaa.L
open Go.RowKit Go.Proofs.YthmjhhkheohgfaaW.PrintWords Go.Proofs.YthmjhhkheohgfaaW.PrintLast Go.Proofs.YthmjhhkheohgfaaW.PrintMore Go.Proofs.Ythmjhhkheohgfaa.Q

/-- a right row, said of all its items -/
structure Right (a b : Int) (l : List S_Item) : Prop where
  lo : 0 ≤ a
  hi : a ≤ b
  top : b ≤ 100000
  len : l.length ≤ 80
  each : ∀ x ∈ l, itemOk x = true ∧ a ≤ x.f0 ∧ x.f0 < b
  up : l.Pairwise fun x y => x.f0 < y.f0
theorem allAt_all (a b : Int) (l : List S_Item) : ∀ (d i : Nat), allAt a b l d i = true ↔ ∀ j, i ≤ j → j < i + d → okAt a b l j = true := by
  intro d
  induction d with
  | zero => intro i; simp only [allAt, true_iff]; omega
  | succ d ih =>
    intro i
    unfold allAt
    rw [Bool.and_eq_true, ih (i + 1)]
    constructor
    · intro h j h1 h2
      by_cases q : j = i
      · rw [q]; exact h.1
      · exact h.2 j (by omega) (by omega)
    · intro h
      exact ⟨h i (Nat.le_refl _) (by omega), fun j h1 h2 => h j (by omega) (by omega)⟩
theorem rowHead_iff (a b : Int) (l : List S_Item) : rowHead a b l = true ↔ 0 ≤ a ∧ a ≤ b ∧ b ≤ 100000 ∧ l.length ≤ 80 := by
  unfold rowHead
  rw [Bool.and_eq_true, Bool.and_eq_true, inb_true, decide_eq_true_eq, decide_eq_true_eq]
  omega
theorem right_of {a b : Int} {l : List S_Item} (h : rowOk a b l = true) : Right a b l := by
  unfold rowOk at h
  rw [Bool.and_eq_true, rowHead_iff, allAt_all] at h
  obtain ⟨h, h0, h1, h2, h3⟩ := h
  have e : wrap64 (b - 1) = b - 1 := w64 (by omega) (by omega)
  have ok : ∀ j (hj : j < l.length), itemOk l[j] = true ∧ a ≤ l[j].f0 ∧ l[j].f0 < b ∧ (∀ (q : 0 < j), (l[j - 1]'(by omega)).f0 < l[j].f0) := by
    intro j hj
    have := h j (Nat.zero_le _) (by omega)
    unfold okAt at this
    rw [Bool.and_eq_true, Bool.and_eq_true, rdI l j hj, inb_true, e] at this
    obtain ⟨t1, t2, t3⟩ := this
    refine ⟨t1, t2.1, by omega, fun q => ?_⟩
    have e1 : ((j : Int) - 1) = ((j - 1 : Nat) : Int) := by omega
    rw [e1, rdI l (j - 1) (by omega)] at t3
    simp only [q, decide_true, Bool.true_and, Bool.not_eq_true', decide_eq_false_iff_not] at t3
    omega
  refine ⟨h0, h1, h2, h3, ?_, ?_⟩
  · intro x hx
    obtain ⟨j, hj, rfl⟩ := List.mem_iff_getElem.1 hx
    exact ⟨(ok j hj).1, (ok j hj).2.1, (ok j hj).2.2.1⟩
  · rw [List.pairwise_iff_getElem]
    have all : ∀ (d i : Nat) (q : i + d + 1 < l.length), (l[i]'(by omega)).f0 < (l[i + d + 1]'q).f0 := by
      intro d
      induction d with
      | zero => intro i q; exact (ok (i + 1) q).2.2.2 (by omega)
      | succ d ih =>
        intro i q
        have q1 := ih i (by omega)
        have q2 := (ok (i + (d + 1) + 1) q).2.2.2 (by omega)
        have q3 : i + (d + 1) + 1 - 1 = i + d + 1 := by omega
        simp only [q3] at q2
        omega
    intro i j hi hj hij
    obtain ⟨d, rfl⟩ : ∃ d, j = i + d + 1 := ⟨j - i - 1, by omega⟩
    exact all d i hj
theorem of_right {a b : Int} {l : List S_Item} (h : Right a b l) : rowOk a b l = true := by
  obtain ⟨h0, h1, h2, h3, h4, h5⟩ := h
  have e : wrap64 (b - 1) = b - 1 := w64 (by omega) (by omega)
  unfold rowOk
  rw [Bool.and_eq_true, rowHead_iff, allAt_all]
  refine ⟨fun j _ hj => ?_, h0, h1, h2, h3⟩
  have hj : j < l.length := by omega
  have t := h4 l[j] (List.getElem_mem _)
  unfold okAt
  rw [Bool.and_eq_true, Bool.and_eq_true, rdI l j hj, inb_true, e]
  refine ⟨t.1, ⟨t.2.1, by omega⟩, ?_⟩
  by_cases q : 0 < j
  · have e1 : ((j : Int) - 1) = ((j - 1 : Nat) : Int) := by omega
    rw [e1, rdI l (j - 1) (by omega)]
    have := (List.pairwise_iff_getElem.1 h5) (j - 1) j (by omega) hj (by omega)
    simp only [q, decide_true, Bool.true_and, Bool.not_eq_true', decide_eq_false_iff_not]
    omega
  · simp [q]
theorem right_sub {a b : Int} {l m : List S_Item} (h : Right a b l) (s : m.Sublist l) : Right a b m :=
  ⟨h.lo, h.hi, h.top, Nat.le_trans s.length_le h.len, fun x hx => h.each x (s.subset hx), h.up.sublist s⟩

/-- does an item of a key stand in a list -/
def behx (key : ByteArray) (t : List S_Item) : Bool := t.any fun y => decide (y.f1.toList = key.toList)
/-- is an item kept that stands ahead of t -/
def keepX (n b : Int) (x : S_Item) (t : List S_Item) : Bool :=
  decide (x.f1.toList = ([] : List UInt8)) || (!behx x.f1 t || decide (wrap64 (Int.tdiv x.f0 n) = wrap64 (Int.tdiv (wrap64 (b - 1)) n)))
/-- what packing leaves of a list -/
def pk (n b : Int) : List S_Item → List S_Item
  | [] => []
  | x :: t => if keepX n b x t = true then x :: pk n b t else pk n b t
theorem beh_any (key : ByteArray) (l : List S_Item) : ∀ (d i : Nat), i + d = l.length → beh key l d i = behx key (l.drop i) := by
  intro d
  induction d with
  | zero => intro i h; rw [List.drop_eq_nil_of_le (by omega)]; rfl
  | succ d ih =>
    intro i h
    rw [List.drop_eq_getElem_cons (by omega)]
    unfold beh behx
    rw [List.any_cons, rdI l i (by omega), ih (i + 1) (by omega)]
    rfl
theorem packL_pk (n b : Int) (l : List S_Item) : ∀ (d i : Nat), i + d = l.length → packL n b l d i = pk n b (l.drop i) := by
  intro d
  induction d with
  | zero => intro i h; rw [List.drop_eq_nil_of_le (by omega)]; rfl
  | succ d ih =>
    intro i h
    have k : keepAt n b l i = keepX n b l[i] (l.drop (i + 1)) := by
      unfold keepAt keepX
      rw [rdI l i (by omega), beh_any _ l (l.length - (i + 1)) (i + 1) (by omega)]
    rw [List.drop_eq_getElem_cons (by omega)]
    unfold packL pk
    rw [k, rdI l i (by omega), ih (i + 1) (by omega)]
theorem pk_sub (n b : Int) : ∀ l : List S_Item, (pk n b l).Sublist l := by
  intro l
  induction l with
  | nil => exact List.Sublist.refl _
  | cons x t ih =>
    unfold pk
    split
    · exact ih.cons_cons x
    · exact ih.cons x
theorem rowPack_pk (a b : Int) (l : List S_Item) (n : Int) : rowPack a b l n = if 1 ≤ n ∧ rowOk a b l = true then (a, b, pk n b l) else (a, b, l) := by
  unfold rowPack
  rw [packL_pk n b l l.length 0 (by omega), List.drop_zero]
theorem right_pack {a b : Int} {l : List S_Item} (n : Int) (h : Right a b l) : Right a b (rowPack a b l n).2.2 ∧ (rowPack a b l n).1 = a ∧ (rowPack a b l n).2.1 = b := by
  rw [rowPack_pk]
  split
  · exact ⟨right_sub h (pk_sub n b l), rfl, rfl⟩
  · exact ⟨h, rfl, rfl⟩
end Go.Proofs.Ythmjhhkheohgfaa.L

/- What trimming leaves of a row; the reference comes to it. Condition: lists of at most 2^20 elements, texts as they are read. -/
namespace Go.Proofs.Ythmjhhkheohgfaa.L
open Go.RowKit Go.Proofs.YthmjhhkheohgfaaW.PrintWords Go.Proofs.YthmjhhkheohgfaaW.PrintLast Go.Proofs.YthmjhhkheohgfaaW.PrintMore Go.Proofs.Ythmjhhkheohgfaa.Q

/-- the block of a number -/
def blk (n x : Int) : Int := wrap64 (Int.tdiv x n)
/-- what stands behind a block at a list's front -/
def behind1 (n f : Int) (l : List S_Item) : List S_Item := l.dropWhile fun y => decide (blk n y.f0 = f)
def trim (n b keep : Int) : Nat → Int → List S_Item → Int × List S_Item
  | 0, a, l => (a, l)
  | _ + 1, a, [] => (a, [])
  | d + 1, a, x :: t => if ((x :: t).length : Int) > keep ∧ ¬ blk n x.f0 = blk n (wrap64 (b - 1)) then trim n b keep d (wrap64 (wrap64 (blk n x.f0 + 1) * n)) (behind1 n (blk n x.f0) (x :: t)) else (a, x :: t)
/-- what RowTrim comes to -/
def rowTrim (a b : Int) (l : List S_Item) (n keep : Int) : Int × Int × List S_Item :=
  if 1 ≤ n ∧ 0 ≤ keep ∧ rowOk a b l = true then ((trim n b keep l.length a l).1, b, (trim n b keep l.length a l).2) else (a, b, l)
theorem behind1_pos {n f : Int} {x : S_Item} (t : List S_Item) (c : blk n x.f0 = f) : behind1 n f (x :: t) = behind1 n f t := List.dropWhile_cons_of_pos (by simpa using c)
theorem behind1_neg {n f : Int} {x : S_Item} (t : List S_Item) (c : ¬ blk n x.f0 = f) : behind1 n f (x :: t) = x :: t := List.dropWhile_cons_of_neg (by simpa using c)
theorem behind1_cons (n : Int) (x : S_Item) (t : List S_Item) : behind1 n (blk n x.f0) (x :: t) = behind1 n (blk n x.f0) t := behind1_pos t rfl
theorem behind1_len (n f : Int) (l : List S_Item) : (behind1 n f l).length ≤ l.length := (List.dropWhile_sublist _).length_le
theorem specTrim_l1 (n keep a0 b : Int) (l0 : List S_Item) (hn : n ≠ 0) (f a : Int) (l : List S_Item) (hl : l.length ≤ 1048576) (r : Int × Int × List S_Item) : ∀ (d i : Nat), i + d = l.length →
    Ev (fun k => spec_RowTrim.l0 k n keep a0 b l0 (wrap64 (wrap64 (f + 1) * n)) b (behind1 n f (l.drop i))) r → Ev (fun k => spec_RowTrim.l1 k n keep f (i : Int) a0 b l0 a b l) r := by
  intro d
  induction d with
  | zero =>
    intro i h q
    have e : l.drop i = [] := List.drop_eq_nil_of_le (by omega)
    rw [e] at q
    refine ev_step (fun _ => by rw [spec_RowTrim.l1]) ?_
    refine ev_neg (by omega) (ev_some rfl (ev_pos (by omega) (ev_pos (by omega) (ev_some rfl ?_))))
    rw [Int.toNat_natCast, e]
    exact ev_pos (by simp) q
  | succ d ih =>
    intro i h q
    have e : wrap64 ((i : Int) + 1) = ((i + 1 : Nat) : Int) := by rw [w64 (by omega) (by omega)]; omega
    have hd : l.drop i = l[i] :: l.drop (i + 1) := List.drop_eq_getElem_cons (by omega)
    refine ev_step (fun _ => by rw [spec_RowTrim.l1]) ?_
    refine ev_pos (by omega) (ev_pos (by omega) (ev_neg hn ?_))
    rw [rdI l i (by omega)]
    by_cases c : wrap64 (Int.tdiv l[i].f0 n) = f
    · refine ev_pos c ?_
      rw [e]
      refine ih (i + 1) (by omega) ?_
      have : behind1 n f (l.drop i) = behind1 n f (l.drop (i + 1)) := by
        rw [hd]
        exact behind1_pos _ c
      rw [← this]
      exact q
    · refine ev_neg c (ev_some rfl (ev_pos (by omega) (ev_some rfl ?_)))
      have : behind1 n f (l.drop i) = l.drop i := by
        rw [hd]
        exact behind1_neg _ c
      rw [this] at q
      rw [Int.toNat_natCast, List.nil_append]
      exact ev_pos (by simp; omega) q
theorem specTrim_l0 (n keep a0 b : Int) (l0 : List S_Item) (hn : n ≠ 0) (hk : 0 ≤ keep) : ∀ (d : Nat) (a : Int) (l : List S_Item), l.length ≤ d → l.length ≤ 1048576 →
    Ev (fun k => spec_RowTrim.l0 k n keep a0 b l0 a b l) ((trim n b keep d a l).1, b, (trim n b keep d a l).2) := by
  intro d
  induction d with
  | zero =>
    intro a l h q
    refine ev_step (fun _ => by rw [spec_RowTrim.l0]) ?_
    exact ev_neg (by omega) (ev_now rfl)
  | succ d ih =>
    intro a l h q
    refine ev_step (fun _ => by rw [spec_RowTrim.l0]) ?_
    cases l with
    | nil => exact ev_neg (by simp; omega) (ev_now rfl)
    | cons x t =>
      have ht : ((x :: t).length : Int) = (t.length : Int) + 1 := by simp
      have er : rd_Item (x :: t) 0 = x := rfl
      by_cases c : ((x :: t).length : Int) > keep
      · refine ev_pos c (ev_pos (by omega) (ev_neg hn ?_))
        rw [er]
        by_cases c2 : wrap64 (Int.tdiv x.f0 n) = wrap64 (Int.tdiv (wrap64 (b - 1)) n)
        · refine ev_pos c2 (ev_now ?_)
          rw [trim, if_neg (by intro w; exact w.2 c2)]
        · refine ev_neg c2 ?_
          refine specTrim_l1 n keep a0 b l0 hn _ a (x :: t) q _ (x :: t).length 0 (by omega) ?_
          rw [List.drop_zero, trim, if_pos ⟨c, c2⟩]
          have hb : (behind1 n (blk n x.f0) (x :: t)).length ≤ d := by
            rw [behind1_cons]
            have := behind1_len n (blk n x.f0) t
            simp only [List.length_cons] at h
            omega
          have hq : (behind1 n (blk n x.f0) (x :: t)).length ≤ 1048576 := Nat.le_trans (behind1_len _ _ _) q
          exact ih _ _ hb hq
      · refine ev_neg c (ev_now ?_)
        rw [trim, if_neg (fun w => c w.1)]
theorem specRowTrim (a b : Int) (l : List S_Item) (n keep : Int) (hl : ∀ x ∈ l, okI x) (hn : l.length ≤ 1048576) : Ev (fun k => spec_RowTrim.f k a b l n keep) (rowTrim a b l n keep) := by
  have fin : rowTrim a b l n keep = (a, b, l) → Ev (fun k => spec_RowTrim.j0 k n keep true a b l a b l) (rowTrim a b l n keep) := fun e => by
    rw [e]
    exact ev_step (fun _ => by rw [spec_RowTrim.j0]) (ev_pos rfl (ev_now rfl))
  refine ev_some (specCopyRow a b l (by omega)) ?_
  by_cases c1 : n < 1
  · exact ev_pos c1 (fin (by unfold rowTrim; rw [if_neg (by omega)]))
  · by_cases c2 : keep < 0
    · exact ev_neg c1 (ev_pos c2 (fin (by unfold rowTrim; rw [if_neg (by omega)])))
    · refine ev_neg c1 (ev_neg c2 (ev_bind (specRowOk a b l hl (by omega)) ?_))
      cases c3 : rowOk a b l with
      | false => exact fin (by unfold rowTrim; rw [c3, if_neg (by simp)])
      | true =>
        refine ev_step (fun _ => by rw [spec_RowTrim.j0]) (ev_neg (by simp) ?_)
        unfold rowTrim
        rw [if_pos ⟨by omega, by omega, c3⟩]
        exact specTrim_l0 n keep a b l (by omega) (by omega) l.length a l (Nat.le_refl _) hn
theorem blk_eq {n x : Int} (hn : 1 ≤ n) (h0 : 0 ≤ x) (h1 : x ≤ 100000) : blk n x = x / n ∧ 0 ≤ x / n ∧ x / n ≤ 100000 := by
  have q0 : 0 ≤ x / n := Int.ediv_nonneg h0 (by omega)
  have q1 : x / n ≤ x := Int.ediv_le_self _ h0
  refine ⟨?_, q0, by omega⟩
  unfold blk
  rw [Int.tdiv_eq_ediv_of_nonneg h0]
  exact w64 (by omega) (by omega)
theorem blk_mono {n x y : Int} (hn : 1 ≤ n) (h0 : 0 ≤ x) (h : x ≤ y) (h1 : y ≤ 100000) : blk n x ≤ blk n y := by
  rw [(blk_eq hn h0 (by omega)).1, (blk_eq hn (by omega) h1).1]
  exact Int.ediv_le_ediv (by omega) h
theorem behind1_filter (n f : Int) (hn : 1 ≤ n) : ∀ l : List S_Item, (∀ x ∈ l, 0 ≤ x.f0 ∧ x.f0 ≤ 100000 ∧ f ≤ blk n x.f0) → (l.Pairwise fun x y => x.f0 < y.f0) → (∀ y ∈ behind1 n f l, f < blk n y.f0) ∧ behind1 n f l = l.filter (fun y => !decide (blk n y.f0 = f)) := by
  intro l
  induction l with
  | nil => intro _ _; exact ⟨fun y hy => absurd hy (List.not_mem_nil), rfl⟩
  | cons x t ih =>
    intro h p
    rw [List.pairwise_cons] at p
    have hx := h x (List.mem_cons_self ..)
    have ht : ∀ y ∈ t, 0 ≤ y.f0 ∧ y.f0 ≤ 100000 ∧ f ≤ blk n y.f0 := fun y hy => h y (List.mem_cons_of_mem _ hy)
    by_cases c : blk n x.f0 = f
    · have e : behind1 n f (x :: t) = behind1 n f t := behind1_pos t c
      rw [e, List.filter_cons_of_neg (by simp [c])]
      exact ih ht p.2
    · have e : behind1 n f (x :: t) = x :: t := behind1_neg t c
      have all : ∀ y ∈ x :: t, f < blk n y.f0 := by
        intro y hy
        rcases List.mem_cons.1 hy with rfl | hy
        · omega
        · have := blk_mono hn hx.1 (Int.le_of_lt (p.1 y hy)) (ht y hy).2.1
          omega
      rw [e]
      refine ⟨all, ?_⟩
      symm
      rw [List.filter_eq_self]
      intro y hy
      have := all y hy
      have : ¬ blk n y.f0 = f := by omega
      simp [this]
theorem next_block {n b x : Int} (hn : 1 ≤ n) (h0 : 0 ≤ x) (h1 : x < b) (hb : b ≤ 100000) (c : ¬ blk n x = blk n (wrap64 (b - 1))) :
    wrap64 (wrap64 (blk n x + 1) * n) = (x / n + 1) * n ∧ 0 ≤ (x / n + 1) * n ∧ (x / n + 1) * n ≤ b := by
  rw [w64 (by omega) (by omega)] at c
  have e1 := blk_eq hn h0 (by omega)
  have e2 := blk_eq (x := b - 1) hn (by omega) (by omega)
  rw [e1.1, e2.1] at c
  have m : x / n ≤ (b - 1) / n := Int.ediv_le_ediv (by omega) (by omega)
  have u : (x / n + 1) * n ≤ (b - 1) / n * n := Int.mul_le_mul_of_nonneg_right (by omega) (by omega)
  have v : (b - 1) / n * n ≤ b - 1 := Int.ediv_mul_le _ (by omega)
  have z : 0 ≤ (x / n + 1) * n := Int.mul_nonneg (by omega) (by omega)
  rw [e1.1, w64 (x := x / n + 1) (by omega) (by omega), w64 (by omega) (by omega)]
  exact ⟨rfl, z, by omega⟩
theorem right_behind {n a b : Int} {x : S_Item} {t : List S_Item} (hn : 1 ≤ n) (h : Right a b (x :: t)) (c : ¬ blk n x.f0 = blk n (wrap64 (b - 1))) : Right (wrap64 (wrap64 (blk n x.f0 + 1) * n)) b (behind1 n (blk n x.f0) (x :: t)) := by
  have hx := h.each x (List.mem_cons_self ..)
  have h0 := h.lo
  have h2 := h.top
  obtain ⟨e, z, u⟩ := next_block hn (by omega) hx.2.2 h2 c
  have s : (behind1 n (blk n x.f0) (x :: t)).Sublist (x :: t) := List.dropWhile_sublist _
  have r := right_sub h s
  have up := h.up
  rw [List.pairwise_cons] at up
  have f := (behind1_filter n (blk n x.f0) hn (x :: t) (fun y hy => by
    have q := h.each y hy
    refine ⟨by omega, by omega, ?_⟩
    rcases List.mem_cons.1 hy with rfl | hy
    · exact Int.le_refl _
    · exact blk_mono hn (by omega) (Int.le_of_lt (up.1 y hy)) (by omega)) h.up).1
  rw [e]
  refine ⟨z, u, h2, r.len, fun y hy => ?_, r.up⟩
  have q := r.each y hy
  refine ⟨q.1, ?_, q.2.2⟩
  have q2 := f y hy
  rw [(blk_eq hn (by omega) (by omega)).1, (blk_eq (x := y.f0) hn (by omega) (by omega)).1] at q2
  have w : (x.f0 / n + 1) * n ≤ y.f0 / n * n := Int.mul_le_mul_of_nonneg_right (by omega) (by omega)
  have v : y.f0 / n * n ≤ y.f0 := Int.ediv_mul_le _ (by omega)
  omega
theorem right_trim_l (n b keep : Int) (hn : 1 ≤ n) : ∀ (d : Nat) (a : Int) (l : List S_Item), Right a b l → Right (trim n b keep d a l).1 b (trim n b keep d a l).2 ∧ (trim n b keep d a l).2.length ≤ l.length := by
  intro d
  induction d with
  | zero => intro a l h; exact ⟨h, Nat.le_refl _⟩
  | succ d ih =>
    intro a l h
    cases l with
    | nil => exact ⟨h, Nat.le_refl _⟩
    | cons x t =>
      rw [trim]
      split
      · rename_i c
        have := ih _ _ (right_behind hn h c.2)
        exact ⟨this.1, Nat.le_trans this.2 (behind1_len _ _ _)⟩
      · exact ⟨h, Nat.le_refl _⟩
theorem right_trim {a b : Int} {l : List S_Item} (n keep : Int) (h : Right a b l) : Right (rowTrim a b l n keep).1 b (rowTrim a b l n keep).2.2 ∧ (rowTrim a b l n keep).2.1 = b ∧ (rowTrim a b l n keep).2.2.length ≤ l.length := by
  unfold rowTrim
  split
  · rename_i c
    have := right_trim_l n b keep c.1 l.length a l h
    exact ⟨this.1, rfl, this.2⟩
  · exact ⟨h, rfl, Nat.le_refl _⟩
end Go.Proofs.Ythmjhhkheohgfaa.L

/- The plain side of RowPut: program and reference come to one answer. Condition: lists of at most 2^20 elements, texts as they are read. -/
namespace Go.Proofs.Ythmjhhkheohgfaa.L
open Go.RowKit Go.Proofs.YthmjhhkheohgfaaW.PrintWords Go.Proofs.YthmjhhkheohgfaaW.PrintLast Go.Proofs.YthmjhhkheohgfaaW.PrintMore Go.Proofs.Ythmjhhkheohgfaa.Q

/-- a row with one item more -/
def rowMore (b : Int) (l : List S_Item) (k t : ByteArray) (c d : Int) : List S_Item := l ++ [(⟨b, k, t, c, d⟩ : S_Item)]
/-- what RowPut comes to -/
def rowPut (a b : Int) (l : List S_Item) (k t : ByteArray) (c d : Int) : Int × Int × List S_Item × Int × Bool :=
  if rowOk a b l = true ∧ rowOk a (wrap64 (b + 1)) (rowMore b l k t c d) = true then (a, wrap64 (b + 1), rowMore b l k t c d, b, true) else (a, b, l, 0, false)
theorem okI_more (b : Int) (l : List S_Item) (k t : ByteArray) (c d : Int) (hl : ∀ x ∈ l, okI x) (hk : k.size ≤ 1048576) (ht : t.size ≤ 1048576) : ∀ x ∈ rowMore b l k t c d, okI x := by
  intro x hx
  rcases List.mem_append.1 hx with h | h
  · exact hl x h
  · rw [List.mem_singleton] at h
    subst h
    exact ⟨by show k.size ≤ _; omega, by show t.size ≤ _; omega⟩
theorem specRowPut (a b : Int) (l : List S_Item) (k t : ByteArray) (c d : Int) (hl : ∀ x ∈ l, okI x) (hk : k.size ≤ 1048576) (ht : t.size ≤ 1048576) (hn : l.length ≤ 1048576) : Ev (fun n => spec_RowPut.f n a b l k t c d) (rowPut a b l k t c d) := by
  have hm : (rowMore b l k t c d).length = l.length + 1 := by simp [rowMore]
  refine ev_some (specCopyRow a b l (by omega)) (ev_bind (specRowOk a b l hl (by omega)) ?_)
  unfold rowPut
  by_cases h1 : rowOk a b l = true
  · refine ev_pos h1 (ev_step (fun _ => rfl) (ev_pos (show l.length < 2513169434916 by omega) (ev_some rfl (ev_bind (specRowOk a (wrap64 (b + 1)) (rowMore b l k t c d) (okI_more b l k t c d hl hk ht) (by omega)) ?_))))
    by_cases h2 : rowOk a (wrap64 (b + 1)) (rowMore b l k t c d) = true
    · exact ev_pos h2 (ev_now (by rw [if_pos ⟨h1, h2⟩]; rfl))
    · exact ev_neg h2 (ev_some (specCopyRow a b l (by omega)) (ev_now (by rw [if_neg (fun h => h2 h.2)])))
  · exact ev_neg h1 (ev_now (by rw [if_neg (fun h => h1 h.1)]))
end Go.Proofs.Ythmjhhkheohgfaa.L

/- What is drawn: a draw comes to its end, and its answer keeps to bounds. Condition: a cursor that stands at no place below 0. -/
set_option linter.unusedVariables false
namespace Go.Proofs.Ythmjhhkheohgfaa.L
open Go.RowKit Go.Proofs.YthmjhhkheohgfaaW.PrintWords Go.Proofs.YthmjhhkheohgfaaW.PrintLast Go.Proofs.YthmjhhkheohgfaaW.PrintMore Go.Proofs.Ythmjhhkheohgfaa.Q

/-- it comes to an answer, at enough rounds, of which P is true -/
def Dr {α : Type} (f : Nat → Option α) (P : α → Prop) : Prop := ∃ r, Ev f r ∧ P r
theorem dr_now {α : Type} {r : α} {P : α → Prop} (h : P r) : Dr (fun _ => some r) P := ⟨r, ev_now rfl, h⟩
theorem dr_of {α : Type} {f : Nat → Option α} {r : α} {P : α → Prop} (h : Ev f r) (k : P r) : Dr f P := ⟨r, h, k⟩
theorem dr_bind {α β : Type} {g : Nat → Option α} {f : Nat → α → Option β} {P : α → Prop} {Q : β → Prop} (h : Dr g P) (k : ∀ a, P a → Dr (fun n => f n a) Q) : Dr (fun n => (g n).bind (f n)) Q := by
  obtain ⟨a, ha, pa⟩ := h
  obtain ⟨b, hb, qb⟩ := k a pa
  exact ⟨b, ev_bind ha hb, qb⟩
theorem dr_some {α β : Type} {g : Option α} {f : Nat → α → Option β} {P : α → Prop} {Q : β → Prop} (h : ∃ a, g = some a ∧ P a) (k : ∀ a, P a → Dr (fun n => f n a) Q) : Dr (fun n => g.bind (f n)) Q := by
  obtain ⟨a, rfl, pa⟩ := h
  exact k a pa
theorem dr_pos {α : Type} {c : Prop} [Decidable c] {f g : Nat → Option α} {P : α → Prop} (h : c) (k : Dr f P) : Dr (fun n => if c then f n else g n) P := by
  simpa only [if_pos h] using k
theorem dr_neg {α : Type} {c : Prop} [Decidable c] {f g : Nat → Option α} {P : α → Prop} (h : ¬ c) (k : Dr g P) : Dr (fun n => if c then f n else g n) P := by
  simpa only [if_neg h] using k
theorem dr_ite {α : Type} {c : Prop} [Decidable c] {f g : Nat → Option α} {P : α → Prop} (h : c → Dr f P) (k : ¬ c → Dr g P) : Dr (fun n => if c then f n else g n) P := by
  by_cases hc : c
  · exact dr_pos hc (h hc)
  · exact dr_neg hc (k hc)
theorem dr_step {α : Type} {g f : Nat → Option α} {P : α → Prop} (h : ∀ k, g (k + 1) = f k) (k : Dr f P) : Dr g P := by
  obtain ⟨r, hr, p⟩ := k
  exact ⟨r, ev_step h hr, p⟩
theorem and255 (n : Int) : Go.bits .and .i64 n 255 = n % 256 := by
  have h255 : (BitVec.ofInt 64 255).toNat = 2 ^ 8 - 1 := by decide
  have key : (BitVec.ofInt 64 n &&& BitVec.ofInt 64 255).toNat = (n % ((2 ^ 64 : Nat) : Int)).toNat % 2 ^ 8 := by
    rw [BitVec.toNat_and, BitVec.toNat_ofInt, h255, Nat.and_two_pow_sub_one_eq_mod]
  show IntKind.i64.wrap ((BitVec.ofInt 64 n &&& BitVec.ofInt 64 255).toNat : Nat) = n % 256
  rw [key, IntKind.wrap_i64]
  omega
/-- a cursor's place is one that it may stand at -/
def okC (i : Int) : Prop := 0 ≤ i ∧ i ≤ 1048576
theorem okC_zero : okC 0 := by unfold okC; omega
theorem l1New_l0 (l : List Int) (hl : l.length ≤ 1048576) : ∀ (d i : Nat) (h : Int), i + d = l.length → Dr (fun k => spec_l1New.l0 k l h (i : Int)) (fun r => r.1 = l ∧ okC r.2.1) := by
  intro d
  induction d with
  | zero => intro i h q; exact dr_step (fun _ => rfl) (dr_neg (by omega) (dr_now ⟨rfl, okC_zero⟩))
  | succ d ih =>
    intro i h q
    have e : wrap64 ((i : Int) + 1) = ((i + 1 : Nat) : Int) := by rw [w64 (by omega) (by omega)]; omega
    refine dr_step (fun _ => rfl) (dr_pos (by omega) (dr_ite (fun _ => dr_pos (by omega) ?_) (fun _ => dr_now ⟨rfl, okC_zero⟩)))
    rw [e]
    exact ih (i + 1) _ (by omega)
theorem l1New (l : List Int) (hl : l.length ≤ 1048576) : Dr (fun k => spec_l1New.f k l) (fun r => r.1 = l ∧ okC r.2.1) := l1New_l0 l hl l.length 0 _ (by omega)
theorem l1Byte (l : List Int) (hl : l.length ≤ 1048576) (i h : Int) (hi : okC i) : ∃ r, spec_l1Byte.f l i h = some r ∧ 0 ≤ r.1 ∧ r.1 ≤ 255 ∧ okC r.2.1 := by
  unfold okC at hi
  unfold spec_l1Byte.f
  simp only [and255]
  split
  · rw [if_pos hi.1]
    refine ⟨_, rfl, ?_, ?_, ?_⟩
    · show 0 ≤ _ % 256
      omega
    · show _ % 256 ≤ 255
      omega
    · show 0 ≤ wrap64 (i + 1) ∧ wrap64 (i + 1) ≤ 1048576
      rw [w64 (by omega) (by omega)]
      omega
  · refine ⟨_, rfl, ?_, ?_, hi⟩
    · show 0 ≤ _ % 256
      omega
    · show _ % 256 ≤ 255
      omega
theorem l1Below (l : List Int) (hl : l.length ≤ 1048576) (i h n : Int) (hi : okC i) (hn : n ≤ 2147483647) : ∃ r, spec_l1Below.f l i h n = some r ∧ 0 ≤ r.1 ∧ (0 < n → r.1 < n) ∧ okC r.2.1 := by
  unfold spec_l1Below.f
  split
  · exact ⟨_, rfl, by show (0 : Int) ≤ 0; omega, fun _ => by omega, hi⟩
  · split
    · obtain ⟨r, hr, h0, h1, h2⟩ := l1Byte l hl i h hi
      rw [hr, Option.bind_some, if_neg (by omega)]
      refine ⟨_, rfl, ?_, fun _ => ?_, h2⟩
      · show 0 ≤ Int.tmod r.1 n
        rw [Int.tmod_eq_emod_of_nonneg h0]
        exact Int.emod_nonneg _ (by omega)
      · show Int.tmod r.1 n < n
        rw [Int.tmod_eq_emod_of_nonneg h0]
        exact Int.emod_lt_of_pos _ (by omega)
    · obtain ⟨a, ha, a0, a1, ai⟩ := l1Byte l hl i h hi
      obtain ⟨b, hb, b0, b1, bi⟩ := l1Byte l hl a.2.1 a.2.2 ai
      obtain ⟨c, hc, c0, c1, ci⟩ := l1Byte l hl b.2.1 b.2.2 bi
      obtain ⟨d, hd, d0, d1, di⟩ := l1Byte l hl c.2.1 c.2.2 ci
      rw [ha, Option.bind_some, hb, Option.bind_some, hc, Option.bind_some, hd, Option.bind_some, if_neg (by omega)]
      have e1 : wrap64 (a.1 * 16777216) = a.1 * 16777216 := w64 (by omega) (by omega)
      have e2 : wrap64 (b.1 * 65536) = b.1 * 65536 := w64 (by omega) (by omega)
      have e3 : wrap64 (c.1 * 256) = c.1 * 256 := w64 (by omega) (by omega)
      have e4 : wrap64 (a.1 * 16777216 + b.1 * 65536) = a.1 * 16777216 + b.1 * 65536 := w64 (by omega) (by omega)
      have e5 : wrap64 (a.1 * 16777216 + b.1 * 65536 + c.1 * 256) = a.1 * 16777216 + b.1 * 65536 + c.1 * 256 := w64 (by omega) (by omega)
      have e6 : wrap64 (a.1 * 16777216 + b.1 * 65536 + c.1 * 256 + d.1) = a.1 * 16777216 + b.1 * 65536 + c.1 * 256 + d.1 := w64 (by omega) (by omega)
      rw [e1, e2, e3, e4, e5, e6]
      refine ⟨_, rfl, ?_, fun _ => ?_, di⟩
      · show 0 ≤ Int.tmod _ n
        rw [Int.tmod_eq_emod_of_nonneg (by omega)]
        exact Int.emod_nonneg _ (by omega)
      · show Int.tmod _ n < n
        rw [Int.tmod_eq_emod_of_nonneg (by omega)]
        exact Int.emod_lt_of_pos _ (by omega)
theorem l1PickInt (l : List Int) (hl : l.length ≤ 1048576) (i h : Int) (xs : List Int) (hi : okC i) (h0 : 0 < xs.length) (hn : xs.length ≤ 1048576) : ∃ r, spec_l1PickInt.f l i h xs = some r ∧ r.1 ∈ xs ∧ okC r.2.1 := by
  obtain ⟨r, hr, r0, r1, h2⟩ := l1Below l hl i h (xs.length : Int) hi (by omega)
  have r1 := r1 (by omega)
  unfold spec_l1PickInt.f
  rw [hr, Option.bind_some, if_pos r0, if_pos r1]
  refine ⟨_, rfl, ?_, h2⟩
  obtain ⟨j, hj⟩ := Int.eq_ofNat_of_zero_le r0
  show rd xs r.1 ∈ xs
  rw [hj]
  have : j < xs.length := by omega
  show rd xs (j : Int) ∈ xs
  rw [rd_eq xs j this]
  exact List.getElem_mem _
end Go.Proofs.Ythmjhhkheohgfaa.L

/- Texts that are drawn: the draw comes to its end, with few bytes. Condition: a cursor that stands at no place below 0. -/
namespace Go.Proofs.Ythmjhhkheohgfaa.L
open Go.RowKit Go.Proofs.YthmjhhkheohgfaaW.PrintWords Go.Proofs.YthmjhhkheohgfaaW.PrintLast Go.Proofs.YthmjhhkheohgfaaW.PrintMore Go.Proofs.Ythmjhhkheohgfaa.Q

theorem l1Pick (l : List Int) (hl : l.length ≤ 1048576) (i h : Int) (xs : List ByteArray) (hi : okC i) (h0 : 0 < xs.length) (hn : xs.length ≤ 1048576) : ∃ r, spec_l1Pick.f l i h xs = some r ∧ r.1 ∈ xs ∧ okC r.2.1 := by
  obtain ⟨r, hr, r0, r1, h2⟩ := l1Below l hl i h (xs.length : Int) hi (by omega)
  have r1 := r1 (by omega)
  unfold spec_l1Pick.f
  rw [hr, Option.bind_some, if_pos r0, if_pos r1]
  refine ⟨_, rfl, ?_, h2⟩
  obtain ⟨j, hj⟩ := Int.eq_ofNat_of_zero_le r0
  show rdOf ByteArray.empty xs r.1 ∈ xs
  have q : j < xs.length := by omega
  have e : rdOf ByteArray.empty xs r.1 = xs[j] := by
    rw [hj]
    simp [rdOf, List.getD_eq_getElem?_getD, q]
  rw [e]
  exact List.getElem_mem _
theorem l2Text (l : List Int) (hl : l.length ≤ 1048576) (i h : Int) (hi : okC i) : ∃ r, spec_l2DrawText.f l i h = some r ∧ r.1.size ≤ 4 ∧ okC r.2.1 := by
  obtain ⟨r, hr, r1, r2⟩ := l1Pick l hl i h [(⟨#[]⟩ : ByteArray), (⟨#[97]⟩ : ByteArray), (⟨#[98]⟩ : ByteArray), (⟨#[107, 32, 49]⟩ : ByteArray), (⟨#[116, 101, 120, 116]⟩ : ByteArray)] hi (by simp) (by simp)
  unfold spec_l2DrawText.f
  rw [hr, Option.bind_some]
  refine ⟨_, rfl, ?_, r2⟩
  show r.1.size ≤ 4
  simp only [List.mem_cons, List.not_mem_nil, or_false] at r1
  rcases r1 with e | e | e | e | e <;> rw [e] <;> decide
end Go.Proofs.Ythmjhhkheohgfaa.L

/- Rows that are drawn: the draw comes to its end, with few items. Condition: a cursor that stands at no place below 0. -/
namespace Go.Proofs.Ythmjhhkheohgfaa.L
open Go.RowKit Go.Proofs.YthmjhhkheohgfaaW.PrintWords Go.Proofs.YthmjhhkheohgfaaW.PrintLast Go.Proofs.YthmjhhkheohgfaaW.PrintMore Go.Proofs.Ythmjhhkheohgfaa.Q

theorem words_size {s : ByteArray} (h : words s = true) : s.size ≤ 30 := by
  unfold words at h
  rw [Bool.and_eq_true, decide_eq_true_eq] at h
  omega
theorem right_okI {a b : Int} {l : List S_Item} (h : Right a b l) : ∀ x ∈ l, okI x := by
  intro x hx
  have := (h.each x hx).1
  unfold itemOk at this
  rw [Bool.and_eq_true, Bool.and_eq_true] at this
  have h1 := words_size this.1
  have h2 := words_size this.2.1
  exact ⟨by omega, by omega⟩
/-- a row that is right, with few numbers given out -/
def few (n : Nat) (a b : Int) (l : List S_Item) : Prop := Right a b l ∧ b ≤ (n : Int)
theorem few_zero : few 0 0 0 [] := ⟨⟨by omega, by omega, by omega, by simp, fun x hx => absurd hx (List.not_mem_nil), List.Pairwise.nil⟩, by omega⟩
theorem few_put {n : Nat} {a b : Int} {l : List S_Item} (h : few n a b l) (k t : ByteArray) (c d : Int) : few (n + 1) (rowPut a b l k t c d).1 (rowPut a b l k t c d).2.1 (rowPut a b l k t c d).2.2.1 := by
  unfold rowPut
  have h0 := h.1.lo
  have h1 := h.1.hi
  have h2 := h.1.top
  have h3 := h.2
  have e : wrap64 (b + 1) = b + 1 := w64 (by omega) (by omega)
  split
  · rename_i q
    rw [e] at q ⊢
    exact ⟨right_of q.2, by show b + 1 ≤ _; omega⟩
  · exact ⟨h.1, by show b ≤ _; omega⟩
theorem few_trim {n : Nat} {a b : Int} {l : List S_Item} (h : few n a b l) (m keep : Int) : few n (rowTrim a b l m keep).1 (rowTrim a b l m keep).2.1 (rowTrim a b l m keep).2.2 := by
  obtain ⟨r, e, _⟩ := right_trim m keep h.1
  rw [e]
  exact ⟨r, h.2⟩
theorem few_pack {n : Nat} {a b : Int} {l : List S_Item} (h : few n a b l) (m : Int) : few n (rowPack a b l m).1 (rowPack a b l m).2.1 (rowPack a b l m).2.2 := by
  obtain ⟨r, e1, e2⟩ := right_pack m h.1
  rw [e1, e2]
  exact ⟨r, h.2⟩
/-- a right drawn row, and the cursor's place -/
def fewC (n : Nat) (x : Int × Int × List S_Item × Int × Int) : Prop := few n x.1 x.2.1 x.2.2.1 ∧ okC x.2.2.2.1
theorem few_mono {m n : Nat} {a b : Int} {l : List S_Item} (h : few m a b l) (q : m ≤ n) : few n a b l := ⟨h.1, by have := h.2; omega⟩
theorem right3_l0 (l : List Int) (hl : l.length ≤ 1048576) (m : Int) (hm : m ≤ 14) : ∀ (d i : Nat), i + d = 14 → ∀ (ci ch a b : Int) (r : List S_Item), okC ci → few i a b r →
    Dr (fun k => spec_l3DrawRight.l0 k m (i : Int) l ci ch a b r) (fewC 14) := by
  intro d
  induction d with
  | zero =>
    intro i hi ci ch a b r hc hr
    refine dr_step (fun _ => by rw [spec_l3DrawRight.l0]) ?_
    exact dr_neg (by omega) (dr_now ⟨few_mono hr (by omega), hc⟩)
  | succ d ih =>
    intro i hi ci ch a b r hc hr
    have ei : wrap64 ((i : Int) + 1) = ((i + 1 : Nat) : Int) := by rw [w64 (by omega) (by omega)]; omega
    have hlen := hr.1.len
    refine dr_step (fun _ => by rw [spec_l3DrawRight.l0]) ?_
    rw [ei]
    refine dr_ite (fun _ => ?_) (fun _ => dr_now ⟨few_mono hr (by omega), hc⟩)
    refine dr_some (l2Text l hl ci ch hc) (fun s hs => dr_some (l2Text l hl _ _ hs.2) (fun t ht => dr_some (l1Below l hl _ _ 4 ht.2 (by omega)) (fun u hu => ?_)))
    refine dr_bind (dr_of (P := fun y => y = rowPut a b r s.1 t.1 u.1 (i : Int)) (specRowPut a b r s.1 t.1 u.1 (i : Int) (right_okI hr.1) (by have := hs.1; omega) (by have := ht.1; omega) (by omega)) rfl) (fun y hy => ?_)
    have fy : few (i + 1) y.1 y.2.1 y.2.2.1 := by rw [hy]; exact few_put hr _ _ _ _
    have ly := fy.1.len
    refine dr_some (l1Below l hl _ _ 12 hu.2.2 (by omega)) (fun v hv => dr_ite (fun _ => ?_) (fun _ => dr_ite (fun _ => ?_) (fun _ => ?_)))
    · refine dr_some (l1Below l hl _ _ 3 hv.2.2 (by omega)) (fun w hw => dr_some (l1Below l hl _ _ 4 hw.2.2 (by omega)) (fun z hz => ?_))
      refine dr_bind (dr_of (P := fun q => few (i + 1) q.1 q.2.1 q.2.2) (specRowTrim y.1 y.2.1 y.2.2.1 _ z.1 (right_okI fy.1) (by omega)) (few_trim fy _ _)) (fun q hq => ?_)
      exact ih (i + 1) (by omega) _ _ _ _ _ hz.2.2 hq
    · refine dr_some (l1Below l hl _ _ 3 hv.2.2 (by omega)) (fun w hw => ?_)
      refine dr_bind (dr_of (P := fun q => few (i + 1) q.1 q.2.1 q.2.2) (specRowPack y.1 y.2.1 y.2.2.1 _ (right_okI fy.1) (by omega)) (few_pack fy _)) (fun q hq => ?_)
      exact ih (i + 1) (by omega) _ _ _ _ _ hw.2.2 hq
    · exact ih (i + 1) (by omega) _ _ _ _ _ hv.2.2 fy
theorem l3DrawRight (l : List Int) (hl : l.length ≤ 1048576) (ci ch : Int) (hc : okC ci) : Dr (fun k => spec_l3DrawRight.f k l ci ch) (fewC 14) :=
  dr_some (l1Below l hl ci ch 14 hc (by omega)) (fun r hr => right3_l0 l hl r.1 (by have := hr.2.1 (by omega); omega) 14 0 rfl _ _ _ _ _ hr.2.2 few_zero)
/-- a drawn row: few items, of few bytes, and the cursor's place -/
def okR (x : Int × Int × List S_Item × Int × Int) : Prop := x.2.2.1.length ≤ 81 ∧ (∀ y ∈ x.2.2.1, okI y) ∧ okC x.2.2.2.1
theorem right_put {a b : Int} {l : List S_Item} (h : Right a b l) (hb : b < 100000) (hl : l.length < 80) : rowPut a b l ⟨#[]⟩ ⟨#[]⟩ 0 0 = (a, b + 1, rowMore b l ⟨#[]⟩ ⟨#[]⟩ 0 0, b, true) ∧ Right a (b + 1) (rowMore b l ⟨#[]⟩ ⟨#[]⟩ 0 0) := by
  have h0 := h.lo
  have h1 := h.hi
  have e : wrap64 (b + 1) = b + 1 := w64 (by omega) (by omega)
  have r : Right a (b + 1) (rowMore b l ⟨#[]⟩ ⟨#[]⟩ 0 0) := by
    unfold rowMore
    refine ⟨h0, by omega, by omega, by rw [List.length_append, List.length_singleton]; omega, fun x hx => ?_, ?_⟩
    · rcases List.mem_append.1 hx with hx | hx
      · have := h.each x hx
        exact ⟨this.1, this.2.1, by omega⟩
      · rw [List.mem_singleton] at hx
        subst hx
        refine ⟨?_, h1, by show b < b + 1; omega⟩
        show (words ⟨#[]⟩ && (words ⟨#[]⟩ && (inb 0 0 3 && inb 0 0 100000))) = true
        decide
    · rw [List.pairwise_append]
      refine ⟨h.up, List.pairwise_singleton _ _, fun x hx y hy => ?_⟩
      rw [List.mem_singleton] at hy
      subst hy
      exact (h.each x hx).2.2
  refine ⟨?_, r⟩
  unfold rowPut
  rw [e, if_pos ⟨of_right h, of_right r⟩]
theorem fill_l0 (c0 : List Int) (ci ch : Int) (hc : okC ci) : ∀ (d : Nat) (a b : Int) (l : List S_Item), l.length + d = 80 → Right a b l → b + d ≤ 100000 → Dr (fun k => spec_l3Draw.l0 k c0 ci ch a b l) okR := by
  intro d
  induction d with
  | zero =>
    intro a b l h r hb
    refine dr_step (fun _ => by rw [spec_l3Draw.l0]) ?_
    exact dr_neg (by omega) (dr_now ⟨by show l.length ≤ 81; omega, right_okI r, hc⟩)
  | succ d ih =>
    intro a b l h r hb
    obtain ⟨e, q⟩ := right_put r (by omega) (by omega)
    refine dr_step (fun _ => by rw [spec_l3Draw.l0]) ?_
    refine dr_pos (by omega) ?_
    have s := specRowPut a b l ⟨#[]⟩ ⟨#[]⟩ 0 0 (right_okI r) (by decide) (by decide) (by omega)
    rw [e] at s
    refine dr_bind (dr_of (P := fun y => y = (a, b + 1, rowMore b l ⟨#[]⟩ ⟨#[]⟩ 0 0, b, true)) s rfl) (fun y hy => ?_)
    rw [hy]
    exact ih a (b + 1) (rowMore b l ⟨#[]⟩ ⟨#[]⟩ 0 0) (by unfold rowMore; rw [List.length_append, List.length_singleton]; omega) q (by omega)
theorem l3Draw (l : List Int) (hl : l.length ≤ 1048576) (ci ch : Int) (hc : okC ci) : Dr (fun k => spec_l3Draw.f k l ci ch) okR := by
  refine dr_bind (l3DrawRight l hl ci ch hc) (fun x hx => ?_)
  obtain ⟨⟨r, xb⟩, xc⟩ := hx
  have xl := r.len
  have xo := right_okI r
  refine dr_some (l1Below l hl _ _ 14 xc (by omega)) (fun s hs => ?_)
  refine dr_ite (fun _ => ?_) (fun _ => dr_ite (fun _ => ?_) (fun _ => dr_ite (fun _ => ?_) (fun _ => dr_ite (fun _ => ?_) (fun _ => ?_))))
  · exact dr_some (l1PickInt l hl _ _ _ hs.2.2 (by simp) (by simp)) (fun p hp => dr_now ⟨by show x.2.2.1.length ≤ 81; omega, xo, hp.2⟩)
  · exact dr_some (l1PickInt l hl _ _ _ hs.2.2 (by simp) (by simp)) (fun p hp => dr_now ⟨by show x.2.2.1.length ≤ 81; omega, xo, hp.2⟩)
  · refine dr_some (l1Below l hl _ _ 20 hs.2.2 (by omega)) (fun p hp => dr_some (l1Pick l hl _ _ _ hp.2.2 (by simp) (by simp)) (fun q hq => dr_pos (by omega) (dr_now ⟨?_, ?_, hq.2⟩)))
    · show (x.2.2.1 ++ [_]).length ≤ 81
      rw [List.length_append, List.length_singleton]
      omega
    · intro y hy
      rcases List.mem_append.1 hy with hy | hy
      · exact xo y hy
      · rw [List.mem_singleton] at hy
        subst hy
        have := hq.1
        simp only [List.mem_cons, List.not_mem_nil, or_false] at this
        refine ⟨?_, by show (⟨#[]⟩ : ByteArray).size ≤ _; decide⟩
        show q.1.size ≤ _
        rcases this with e | e <;> rw [e] <;> decide
  · exact fill_l0 l _ _ hs.2.2 (80 - x.2.2.1.length) x.1 x.2.1 x.2.2.1 (by omega) r (by omega)
  · exact dr_now ⟨by show x.2.2.1.length ≤ 81; omega, xo, hs.2.2⟩
end Go.Proofs.Ythmjhhkheohgfaa.L

/- What is drawn for RowTrim: the draw comes to its end, with few items. Condition: a cursor that stands at no place below 0. -/
namespace Go.Proofs.Ythmjhhkheohgfaa.L
open Go.RowKit Go.Proofs.YthmjhhkheohgfaaW.PrintWords Go.Proofs.YthmjhhkheohgfaaW.PrintLast Go.Proofs.YthmjhhkheohgfaaW.PrintMore Go.Proofs.Ythmjhhkheohgfaa.Q

theorem drawRowTrim (l : List Int) (hl : l.length ≤ 1048576) : Dr (fun k => spec_DrawRowTrim.f k l) (fun x => x.2.2.1.length ≤ 81 ∧ ∀ y ∈ x.2.2.1, okI y) := by
  refine dr_bind (l1New l hl) (fun c hc => ?_)
  obtain ⟨c0, ci, ch⟩ := c
  obtain ⟨rfl, hc⟩ := hc
  exact dr_bind (l3Draw c0 hl ci ch hc) (fun x hx => dr_some (l1PickInt c0 hl _ _ _ hx.2.2 (by simp) (by simp)) (fun p hp => dr_some (l1PickInt c0 hl _ _ _ hp.2 (by simp) (by simp)) (fun q hq => dr_now ⟨hx.1, hx.2.1⟩)))
end Go.Proofs.Ythmjhhkheohgfaa.L

/- The program's RowTrim comes to what trimming leaves. Condition: lists of at most 2^20 elements, texts as they are read. -/
namespace Go.Proofs.Ythmjhhkheohgfaa.L
open Go.RowKit Go.Proofs.YthmjhhkheohgfaaW.PrintWords Go.Proofs.YthmjhhkheohgfaaW.PrintLast Go.Proofs.YthmjhhkheohgfaaW.PrintMore Go.Proofs.Ythmjhhkheohgfaa.Q

theorem kept_behind (n b : Int) (a : Int) (x : S_Item) (t : List S_Item) (hn : 1 ≤ n) (h : Right a b (x :: t)) : kept n (blk n x.f0) (x :: t) = behind1 n (blk n x.f0) (x :: t) := by
  have h0 := h.lo
  have h2 := h.top
  have up := h.up
  rw [List.pairwise_cons] at up
  have hx := h.each x (List.mem_cons_self ..)
  rw [(behind1_filter n (blk n x.f0) hn (x :: t) (fun y hy => by
    have q := h.each y hy
    refine ⟨by omega, by omega, ?_⟩
    rcases List.mem_cons.1 hy with rfl | hy
    · exact Int.le_refl _
    · exact blk_mono hn (by omega) (Int.le_of_lt (up.1 y hy)) (by omega)) h.up).2]
  unfold kept
  congr 1
theorem implTrim_l0 (n keep b : Int) (hn : 1 ≤ n) (hk : 0 ≤ keep) : ∀ (d : Nat) (a : Int) (l : List S_Item), l.length ≤ d → Right a b l →
    Ev (fun k => impl_RowTrim.l0 n keep b k a l) ((trim n b keep d a l).1, b, (trim n b keep d a l).2) := by
  intro d
  induction d with
  | zero =>
    intro a l h _
    refine ev_step (fun _ => by rw [impl_RowTrim.l0]) ?_
    exact ev_neg (by omega) (ev_now rfl)
  | succ d ih =>
    intro a l h q
    refine ev_step (fun _ => by rw [impl_RowTrim.l0]) ?_
    cases l with
    | nil => exact ev_neg (by simp; omega) (ev_now rfl)
    | cons x t =>
      have er : rd_Item (x :: t) 0 = x := rfl
      rw [er]
      by_cases c : ((x :: t).length : Int) > keep
      · refine ev_pos c ?_
        by_cases c2 : wrap64 (Int.tdiv x.f0 n) = wrap64 (Int.tdiv (wrap64 (b - 1)) n)
        · refine ev_pos c2 (ev_now ?_)
          rw [trim, if_neg (by intro w; exact w.2 c2)]
        · refine ev_neg c2 ?_
          have e := kept_behind n b a x t hn q
          have r := right_behind hn q c2
          have hb : (behind1 n (blk n x.f0) (x :: t)).length ≤ d := by
            rw [behind1_cons]
            have := behind1_len n (blk n x.f0) t
            simp only [List.length_cons] at h
            omega
          show Ev (fun k => impl_RowTrim.l0 n keep b k (wrap64 (wrap64 (blk n x.f0 + 1) * n)) (kept n (blk n x.f0) (x :: t))) _
          rw [e, trim, if_pos ⟨c, c2⟩]
          exact ih _ _ hb r
      · refine ev_neg c (ev_now ?_)
        rw [trim, if_neg (fun w => c w.1)]
theorem implRowTrim (a b : Int) (l : List S_Item) (n keep : Int) (hl : ∀ x ∈ l, okI x) (hn : l.length ≤ 1048576) : Ev (fun k => impl_RowTrim.f k a b l n keep) (rowTrim a b l n keep) := by
  have fin : ∀ v : Int × Int × List S_Item, v = (a, b, l) → ¬ (1 ≤ n ∧ 0 ≤ keep ∧ rowOk a b l = true) → Ev (fun _ => some v) (rowTrim a b l n keep) := fun v hv h => by
    rw [hv]
    exact ev_now (by unfold rowTrim; rw [if_neg h])
  refine ev_some (implCopyRow a b l (by omega)) ?_
  by_cases c1 : n < 1
  · exact ev_pos c1 (fin _ rfl (by omega))
  · by_cases c2 : keep < 0
    · exact ev_neg c1 (ev_pos c2 (fin _ rfl (by omega)))
    · refine ev_neg c1 (ev_neg c2 (ev_bind (implRowOk a b l hl (by omega)) ?_))
      cases c3 : rowOk a b l with
      | false => exact ev_neg (by simp) (fin _ rfl (by rw [c3]; simp))
      | true =>
        refine ev_pos rfl ?_
        unfold rowTrim
        rw [if_pos ⟨by omega, by omega, c3⟩]
        exact implTrim_l0 n keep b (by omega) (by omega) l.length a l (Nat.le_refl _) (right_of c3)
end Go.Proofs.Ythmjhhkheohgfaa.L

/- FnTrimmed as a plain statement: proved for all arguments. -/
namespace Go.Proofs.Ythmjhhkheohgfaa.Pure
open Go.RowKit Go.Proofs.YthmjhhkheohgfaaW.PrintWords Go.Proofs.YthmjhhkheohgfaaW.PrintLast Go.Proofs.YthmjhhkheohgfaaW.PrintMore Go.Proofs.Ythmjhhkheohgfaa.Q Go.Proofs.Ythmjhhkheohgfaa.L

theorem sameRowT_l0 (a b : Int) (l : List S_Item) (hl : l.length ≤ 1048576) : ∀ (d i : Nat), i + d = l.length → Ev (fun k => laws_sameRow.l0 k (i : Int) a b l a b l) true := by
  intro d
  induction d with
  | zero =>
    intro i h
    refine ev_step (fun _ => by rw [laws_sameRow.l0]) ?_
    exact ev_neg (by omega) (ev_now rfl)
  | succ d ih =>
    intro i h
    have e : wrap64 ((i : Int) + 1) = ((i + 1 : Nat) : Int) := by rw [w64 (by omega) (by omega)]; omega
    refine ev_step (fun _ => by rw [laws_sameRow.l0]) ?_
    refine ev_pos (by omega) (ev_pos (by omega) (ev_pos (by omega) (ev_neg (by simp) ?_)))
    rw [e]
    exact ih (i + 1) (by omega)
theorem sameRowT (a b : Int) (l : List S_Item) (hl : l.length ≤ 1048576) : Ev (fun k => laws_sameRow.f k a b l a b l) true := by
  refine ev_pos rfl (ev_pos rfl ?_)
  refine ev_step (fun _ => by rw [laws_sameRow.j0]) ?_
  refine ev_neg (by simp) ?_
  exact sameRowT_l0 a b l hl l.length 0 (by omega)
/-- what trimming leaves: the row's end; from a line's beginning on -/
structure Cut (n b keep a : Int) (l : List S_Item) (r : Int × List S_Item) : Prop where
  suf : r.2 <:+ l
  le : a ≤ r.1
  more : r.2.length < l.length → Int.tmod r.1 n = 0
  same : r.2.length = l.length → r.1 = a
  fin : (r.2.length : Int) ≤ keep ∨ ∃ x t, r.2 = x :: t ∧ blk n x.f0 = blk n (wrap64 (b - 1))
theorem trim_cut (n b keep : Int) (hn : 1 ≤ n) (hk : 0 ≤ keep) : ∀ (d : Nat) (a : Int) (l : List S_Item), l.length ≤ d → Right a b l → Cut n b keep a l (trim n b keep d a l) := by
  intro d
  induction d with
  | zero => intro a l h _; exact ⟨List.suffix_refl _, Int.le_refl _, fun q => absurd q (Nat.lt_irrefl _), fun _ => rfl, .inl (by show (l.length : Int) ≤ keep; omega)⟩
  | succ d ih =>
    intro a l h q
    cases l with
    | nil => exact ⟨List.suffix_refl _, Int.le_refl _, fun q => absurd q (Nat.lt_irrefl _), fun _ => rfl, .inl (by show ((0 : Nat) : Int) ≤ keep; omega)⟩
    | cons x t =>
      rw [trim]
      split
      · rename_i c
        have hx := q.each x (List.mem_cons_self ..)
        have h0 := q.lo
        have h2 := q.top
        obtain ⟨e, z, u⟩ := next_block hn (by omega) hx.2.2 h2 c.2
        have hlen : (behind1 n (blk n x.f0) (x :: t)).length ≤ t.length := by
          rw [behind1_cons]
          exact behind1_len n (blk n x.f0) t
        have I := ih _ _ (by simp only [List.length_cons] at h; omega) (right_behind hn q c.2)
        generalize trim n b keep d (wrap64 (wrap64 (blk n x.f0 + 1) * n)) (behind1 n (blk n x.f0) (x :: t)) = r at I
        have hs : behind1 n (blk n x.f0) (x :: t) <:+ x :: t := List.dropWhile_suffix _
        have hl := I.suf.length_le
        refine ⟨I.suf.trans hs, ?_, fun _ => ?_, fun w => ?_, I.fin⟩
        · have i1 := I.le
          rw [e] at i1
          have i2 : x.f0 < (x.f0 / n + 1) * n := Int.lt_ediv_add_one_mul_self _ (by omega)
          omega
        · by_cases w : r.2.length < (behind1 n (blk n x.f0) (x :: t)).length
          · exact I.more w
          · rw [I.same (by omega), e]
            exact Int.mul_tmod_left _ _
        · simp only [List.length_cons] at w
          omega
      · rename_i c
        refine ⟨List.suffix_refl _, Int.le_refl _, fun w => absurd w (Nat.lt_irrefl _), fun _ => rfl, ?_⟩
        by_cases w : (((x :: t).length : Nat) : Int) ≤ keep
        · exact .inl w
        · refine .inr ⟨x, t, rfl, ?_⟩
          by_cases w2 : blk n x.f0 = blk n (wrap64 (b - 1))
          · exact w2
          · exact absurd ⟨by omega, w2⟩ c
theorem trimmed_l0 (n keep m a b va : Int) (r l : List S_Item) (hr : r.length ≤ 1048576) (hn : n ≠ 0) (hm : m = (r.length : Int) - (l.length : Int)) (hs : l <:+ r) (hf : (l.length : Int) ≤ keep ∨ ∃ x t, l = x :: t ∧ blk n x.f0 = blk n (wrap64 (b - 1))) :
    ∀ (d i : Nat), i + d = l.length → Ev (fun k => laws_FnTrimmed.l0 k n keep m (i : Int) a b r va b l) true := by
  have hl := hs.length_le
  intro d
  induction d with
  | zero =>
    intro i h
    refine ev_step (fun _ => by rw [laws_FnTrimmed.l0]) ?_
    refine ev_neg (by omega) ?_
    rcases hf with hf | ⟨x, t, rfl, e⟩
    · exact ev_pos hf (ev_now rfl)
    · refine ev_ite (fun _ => ev_now rfl) (fun _ => ev_pos (by simp only [List.length_cons]; omega) (ev_pos (by simp only [List.length_cons]; omega) (ev_neg hn (ev_now ?_))))
      show (wrap64 (Int.tdiv x.f0 n) == wrap64 (Int.tdiv (wrap64 (b - 1)) n)) = true
      unfold blk at e
      rw [e]
      simp
  | succ d ih =>
    intro i h
    have e : wrap64 ((i : Int) + 1) = ((i + 1 : Nat) : Int) := by rw [w64 (by omega) (by omega)]; omega
    have e2 : wrap64 (m + (i : Int)) = ((r.length - l.length + i : Nat) : Int) := by rw [w64 (by omega) (by omega)]; omega
    have e3 : rd_Item r ((r.length - l.length + i : Nat) : Int) = rd_Item l (i : Int) := by
      rw [rdI l i (by omega), rdI r _ (by omega)]
      have h2 := List.suffix_iff_eq_drop.1 hs
      have h3 : l[i]? = (r.drop (r.length - l.length))[i]? := by rw [← h2]
      rw [List.getElem?_drop, List.getElem?_eq_getElem (show i < l.length by omega), List.getElem?_eq_getElem (show r.length - l.length + i < r.length by omega)] at h3
      exact (Option.some.inj h3).symm
    refine ev_step (fun _ => by rw [laws_FnTrimmed.l0]) ?_
    rw [e2, e3, e]
    refine ev_pos (by omega) (ev_pos (by omega) (ev_pos (by omega) (ev_pos (by omega) (ev_neg (by simp) ?_))))
    exact ih (i + 1) (by omega)
theorem FnTrimmed (l : List Int) (_ : l.length ≤ maxLen ∧ ∀ y ∈ l, (Lit.int .u8 y).wf = true) : ∃ k, laws_FnTrimmed.f k l = some true := by
  refine Ev.rounds (g := fun k => laws_FnTrimmed.f k l) ?_
  refine ev_some rfl (ev_ite (fun _ => ev_now rfl) (fun h => ?_))
  have hn : l.length ≤ 1048576 := by simp only [decide_eq_true_eq] at h; omega
  obtain ⟨⟨a, b, r, n, keep⟩, hd, hlen, hok⟩ := drawRowTrim l hn
  have hlen : r.length ≤ 81 := hlen
  have hok : ∀ y ∈ r, okI y := hok
  have e1 := implRowTrim a b r n keep hok (by omega)
  have e2 := specRowTrim a b r n keep hok (by omega)
  have er := implRowOk a b r hok (by omega)
  by_cases q : 1 ≤ n ∧ 0 ≤ keep ∧ rowOk a b r = true
  · have hr := right_of q.2.2
    have ea : rowTrim a b r n keep = ((trim n b keep r.length a r).1, b, (trim n b keep r.length a r).2) := by unfold rowTrim; rw [if_pos q]
    have C := trim_cut n b keep q.1 q.2.1 r.length a r (Nat.le_refl _) hr
    have rm := (right_trim_l n b keep q.1 r.length a r hr).1
    rw [ea] at e1 e2
    generalize trim n b keep r.length a r = v at e1 e2 C rm
    obtain ⟨va, vl⟩ := v
    have okm := right_okI rm
    have lm : vl.length ≤ r.length := C.suf.length_le
    have em := implRowOk va b vl okm (by show vl.length ≤ _; omega)
    rw [of_right rm] at em
    rw [q.2.2] at er
    have hw : wrap64 ((r.length : Int) - (vl.length : Int)) = (r.length : Int) - (vl.length : Int) := w64 (by omega) (by omega)
    refine ev_bind hd (ev_bind e1 (ev_bind e2 (ev_bind (sameRowT va b vl (by omega)) (ev_pos rfl ?_))))
    refine ev_neg (by show ¬ n < 1; omega) (ev_neg (by show ¬ keep < 0; omega) (ev_bind er ?_))
    refine ev_step (fun _ => by rw [laws_FnTrimmed.j0]) (ev_neg (by simp) (ev_bind em (ev_pos rfl ?_)))
    show Ev (fun k => if (wrap64 ((r.length : Int) - (vl.length : Int))) < 0 then _ else _) true
    rw [hw]
    refine ev_neg (by omega) (ev_pos rfl (ev_neg (by have := C.le; show ¬ va < a; exact Int.not_lt.2 this) ?_))
    have last : ∀ c : Bool, c = false → Ev (fun k => laws_FnTrimmed.j1 k n keep ((r.length : Int) - (vl.length : Int)) c a b r va b vl) true := fun c hc => by
      refine ev_step (fun _ => by rw [laws_FnTrimmed.j1]) (ev_neg (by simp [hc]) ?_)
      exact trimmed_l0 n keep _ a b va r vl (by omega) (by omega) rfl C.suf C.fin vl.length 0 (by omega)
    refine ev_ite (fun w => ev_neg (by show ¬ n = 0; omega) (last _ ?_)) (fun _ => last _ rfl)
    have := C.more (by show vl.length < r.length; omega)
    show (Int.tmod va n != 0) = false
    have t : Int.tmod va n = 0 := this
    rw [t]
    rfl
  · have ea : rowTrim a b r n keep = (a, b, r) := by unfold rowTrim; rw [if_neg q]
    rw [ea] at e1 e2
    have fin : Ev (fun k => laws_FnTrimmed.j0 k n keep true a b r a b r) true := ev_step (fun _ => by rw [laws_FnTrimmed.j0]) (ev_pos rfl (ev_bind (sameRowT a b r (by omega)) (ev_now rfl)))
    refine ev_bind hd (ev_bind e1 (ev_bind e2 (ev_bind (sameRowT a b r (by omega)) (ev_pos rfl ?_))))
    refine ev_ite (fun _ => fin) (fun c => ev_ite (fun _ => fin) (fun c2 => ev_bind er ?_))
    have c : ¬ n < 1 := c
    have c2 : ¬ keep < 0 := c2
    have : rowOk a b r = false := by
      cases z : rowOk a b r with
      | false => rfl
      | true => exact absurd ⟨by omega, by omega, z⟩ q
    rw [this]
    exact fin
end Go.Proofs.Ythmjhhkheohgfaa.Pure

/- The law FnTrimmed: its statement holds, for all arguments. Made by a program of ours out of the plain theorem and the walk. No condition. -/
namespace Go.Proofs.Ythmjhhkheohgfaa.fnTrimmed
open Go.ChangeShapes Go.WideShapes Go.ChangeAt Go.RowKit Go.Proofs.YthmjhhkheohgfaaW.PrintWords Go.Proofs.Ythmjhhkheohgfaa.Q Go.Proofs.Ythmjhhkheohgfaa.R
open Go.ChangeMaps (open_string shut_string)
set_option linter.unusedVariables false
theorem own : ownKnob Try.prog.godebug = none := by kernel_rfl
theorem laidOut : laidOutB Try.prog = true := by kernel_rfl
set_option maxRecDepth 100000 in
theorem lifted (os : Os) (started : os.Started) (H : Type) (enc : TypeId × Value → H) :
    ReturnsInHanded {} Try.checked os 3 .any (Rows.fnTrimmedSpec.pre6 enc Try.prog Try.f3 Rows.fnTrimmedRow.domain false) (Rows.fnTrimmedSpec.post enc Try.prog Try.f3 false true false false) := by
  refine returnsInHanded_of_change_sized (C := Try.checked) own started (by kernel_rfl) Try.func3
    (ChangeSpec.witness6 (enc := enc) (C := Try.checked) false ⟨#[], #[.slice none 0 0], []⟩ 8 (by kernel_rfl) (by kernel_rfl) (by kernel_rfl) (by kernel_rfl)) ?_
  intro W base args ds gs before hval0 hW hcnd hsz0 _
  have hval : ∀ (j : Nat) t v, Try.f3.params[j]? = some t → args[j]? = some v → Value.okWide Try.prog W .any base t v := hval0
  have hW' := hW
  obtain ⟨p, q, hA0, hV, rfl, hfz, hnd⟩ := hW
  have hA : DataW.TrodAll enc Try.prog W 0 (fun _ => true) true Try.f3.params.toList args.toList ds p := hA0
  rw [Try.params3] at hA hval
  obtain ⟨v0, vs0, d0, ds0, p0, q0, hargs, rfl, rfl, h0, r0⟩ := trodAll_cons hA
  obtain ⟨rfl, rfl, rfl⟩ := trodAll_nil r0
  obtain rfl : args = #[v0] := by cases args; simp_all
  obtain ⟨rfl, rfl⟩ := trodVars_none hV
  have k0 := h0
  have lt0 : ∀ x ∈ p0, x.block < W.heap.size := by obtain ⟨m, hm⟩ := k0; exact DataW.trod_lt m _ _ _ hm
  obtain ⟨A0, len0, c0, rfl⟩ := okWide_slice Try.underlying22 (hval 0 22 v0 rfl rfl)
  obtain ⟨fuel0, hf0⟩ := h0
  obtain ⟨l0, ⟨A0', c0', hz0, hc0, hr0⟩, w0⟩ := (rd_slice Try.underlying22 (by kernel_rfl) (rd_int Try.underlying5)) H enc W 0 (fun _ => true) true fuel0 _ _ hf0
  obtain ⟨rfl, rfl, rfl⟩ : A0 = A0' ∧ len0 = l0.length ∧ c0 = c0' := by simpa [Value.cells] using hz0
  clear hA0 hval0 hsz0
  obtain ⟨k, hk⟩ := Pure.FnTrimmed l0 w0
  refine (laws_FnTrimmed.calls (w := W) (hr0 := hr0) (hc0 := hc0) (h := hk)).mono fun e W' he => ?_
  obtain ⟨rfl, bel0⟩ := he
  have bel : Below W.heap.size W W' := by first | exact bel0 | exact Drawn0.below bel0
  exact ⟨_, rfl, _, _, _, [], _, [], hW', trodAll_mk1 (shut_bool Try.underlying4 _), (trodAll_cons_mk (Below.trod laidOut (by kernel_rfl) (of_decide_eq_true (by kernel_rfl)) k0 bel lt0) trodAll_mk0), rfl, bel.frame _, fun h => by cases h⟩
theorem over : Rows.fnTrimmedRow.holds Try.pinned (OpenSpec.ofChange Rows.fnTrimmedSpec) :=
  OpenClaim.holds_of_wide 3 Try.f3 rfl rfl rfl rfl rfl rfl rfl ⟨rfl, rfl, rfl, rfl, rfl⟩ rfl rfl rfl rfl rfl (by kernel_rfl) Try.func3 (by kernel_rfl)
    (of_decide_eq_true (by kernel_rfl)) (by unfold Func.isWrapper; first | (rw [if_pos (by decide +kernel)]; kernel_rfl) | (rw [if_neg (by decide +kernel)]; exact ⟨rfl, rfl⟩))
    (fun os started H enc _ => lifted os started H enc)
end Go.Proofs.Ythmjhhkheohgfaa.fnTrimmed
namespace Go.Proofs.Ythmjhhkheohgfaa
/-- The row, under a short name, for the claim. -/
theorem fnTrimmed_holds : Rows.FnTrimmedSaid := fnTrimmed.over
#print axioms fnTrimmed_holds
end Go.Proofs.Ythmjhhkheohgfaa

