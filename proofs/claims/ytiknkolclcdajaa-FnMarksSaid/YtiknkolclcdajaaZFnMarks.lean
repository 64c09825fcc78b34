/- The law FnMarks holds, for all arguments: its row, and behind it the plain side of what the program and the reference compute. Conditions: those that each theorem states; the row has none. -/
import Derived.Test.YtiknkolclcdajaaRows
import Derived.Deep.Slices
import Derived.ChangeArms
import Derived.WideShapes
import Derived.Laws.BitsLemmas
import Derived.WalkKit
import Derived.ProofKit
import Derived.OpenShut
import Derived.ShutString
import Derived.ChangeOld
import Derived.Below
import Derived.SizedLaws
import Derived.Test.YtiknkolclcdajaaZFnMarks0
import Derived.Test.YtiknkolclcdajaaZFnMarksa
import Derived.Test.YtiknkolclcdajaaZFnMarksb
import Derived.Test.YtiknkolclcdajaaZFnMarksc
import Derived.Test.YtiknkolclcdajaaZFnMarksd
import Derived.Test.YtiknkolclcdajaaZFnMarkse
import Derived.Test.YtiknkolclcdajaaZFnMarksf
import Derived.Test.YtiknkolclcdajaaZFnMarksg
/- What is read as data is of a printed kind: whole numbers, texts, structs of one-cell fields, slices. For the laws' rows. No condition. -/
namespace Go.Proofs.Ytiknkolclcdajaa.R
open Go.RowKit Go.Proofs.YtiknkolclcdajaaW.PrintWords Go.WideShapes

/-- Whatever is read as data of type t has cells that are of kind d. -/
def Rd {α : Type} (P : Program) (t : TypeId) (d : Kd α) (wf : α → Prop) : Prop :=
  ∀ (H : Type) (enc : TypeId × Value → H) (W : World) (base : Nat) (spare : Nat → Bool) (held : Bool) (fuel : Nat) (cs : List Value) (x : DataW H × List MemPlace),
    DataW.trod enc P W base spare held fuel t cs = some x → ∃ a, d.K W a cs ∧ wf a
theorem rd_int {P : Program} {t : TypeId} {k : IntKind} (ht : P.underlying t = some (.int k)) : Rd P t (Kd.int k) (fun n => (Lit.int k n).wf = true) := by
  intro H enc W base spare held fuel cs x h
  obtain ⟨n, rfl, _, hw⟩ := DataW.trod_int ht h
  exact ⟨n, rfl, hw⟩
theorem rd_string {P : Program} {t : TypeId} (ht : P.underlying t = some .string) : Rd P t Kd.string (fun s => s.size ≤ maxLen) := by
  intro H enc W base spare held fuel cs x h
  obtain ⟨s, rfl, _, hw⟩ := DataW.trod_string ht h
  exact ⟨s, rfl, hw⟩
theorem rd_slice {α : Type} {P : Program} {t e : TypeId} {d : Kd α} {wf : α → Prop} (ht : P.underlying t = some (.slice e)) (hs : P.cellsOf e = d.sz) (hr : Rd P e d wf) :
    Rd P t (Kd.slice e d) (fun xs => xs.length ≤ maxLen ∧ ∀ x ∈ xs, wf x) := by
  intro H enc W base spare held fuel cs x h
  rcases Go.Deep.open_slice ht h with ⟨rfl, _⟩ | ⟨a, len, cap, m, n, D, Pl, rfl, hb, hl, hm, hmm, _, hx⟩
  · exact ⟨[], ⟨none, 0, rfl, Nat.le_refl _, rfl, by simp, fun h0 => absurd h0 (by simp)⟩, by simp, by simp⟩
  · have hml : len ≤ m := by rw [hmm]; split <;> omega
    have key : ∀ i, i < len → ∃ p : α, wf p ∧ ∃ c, c.length = d.sz ∧ d.K W p c ∧ ∀ q u, c[q]? = some u → W.cell? (a.add (i * d.sz + q)) = some u := by
      intro i hi
      obtain ⟨cs', h1, h2⟩ := hx i (by omega)
      obtain ⟨p, hp, hw⟩ := hr H enc W base spare held n cs' _ h2
      obtain ⟨_, hlen, hc⟩ := World.cells?_some h1
      rw [hs] at hlen hc
      refine ⟨p, hw, cs', hlen, hp, fun q u hq => ?_⟩
      have hq' : q < d.sz := by
        have := (List.getElem?_eq_some_iff.1 hq).1
        omega
      rw [← hq, ← hc q hq', Go.Deep.add_add]
    have key2 : ∃ f : Nat → Option α, ∀ i, i < len → ∃ p, f i = some p ∧ wf p ∧ ∃ c, c.length = d.sz ∧ d.K W p c ∧ ∀ q u, c[q]? = some u → W.cell? (a.add (i * d.sz + q)) = some u := by
      classical
      refine ⟨fun i => if hi : i < len then some (Classical.choose (key i hi)) else none, fun i hi => ⟨Classical.choose (key i hi), by simp [hi], Classical.choose_spec (key i hi)⟩⟩
    obtain ⟨f, hf⟩ := key2
    have hlen : ∀ k, k ≤ len → ((List.range k).filterMap f).length = k ∧ ∀ j, j < k → ((List.range k).filterMap f)[j]? = f j := by
      intro k
      induction k with
      | zero => intro _; exact ⟨rfl, fun j hj => absurd hj (by omega)⟩
      | succ k ih =>
        intro hk
        obtain ⟨i1, i2⟩ := ih (by omega)
        obtain ⟨p, hp, _⟩ := hf k (by omega)
        have e : (List.range (k + 1)).filterMap f = (List.range k).filterMap f ++ [p] := by rw [List.range_succ, List.filterMap_append]; simp [hp]
        refine ⟨by rw [e]; simp [i1], fun j hj => ?_⟩
        rw [e]
        rcases Nat.lt_or_ge j k with h1 | h1
        · rw [List.getElem?_append_left (by omega)]; exact i2 j h1
        · obtain rfl : j = k := by omega
          rw [List.getElem?_append_right (by omega), i1]; simp [hp]
    obtain ⟨i1, i2⟩ := hlen len (Nat.le_refl _)
    refine ⟨(List.range len).filterMap f, ⟨some a, cap, by rw [i1], by rw [i1]; exact hl, rfl, by rw [i1]; simp only [maxLen] at hm; omega, fun _ => ⟨a, rfl, fun j p hj => ?_⟩⟩, by rw [i1]; omega, fun p hp => ?_⟩
    · have hj' : j < len := by
        have := (List.getElem?_eq_some_iff.1 hj).1
        omega
      obtain ⟨p', hp', _, hc⟩ := hf j hj'
      rw [i2 j hj', hp'] at hj
      cases hj
      exact hc
    · obtain ⟨i, hi, hfi⟩ := List.mem_filterMap.1 hp
      obtain ⟨p', hp', hw, _⟩ := hf i (by simpa using hi)
      rw [hp'] at hfi
      cases hfi
      exact hw
/-- The fields of a struct, each of one cell, cell by cell. -/
theorem rd_fields {H : Type} {enc : TypeId × Value → H} {P : Program} {W : World} {base : Nat} {spare : Nat → Bool} {held : Bool} {fuel : Nat} {t : TypeId} {fs : Array Field} {cs : List Value} {x : DataW H × List MemPlace}
    (ht : P.underlying t = some (.struct fs)) (h : DataW.trod enc P W base spare held fuel t cs = some x) : cs.length = P.cellsOf t ∧ ∃ n, ∀ (i : Nat) (f : Field), fs[i]? = some f → ∃ y, DataW.trod enc P W base spare held n f.type ((cs.drop f.offset).take (P.cellsOf f.type)) = some y := by
  obtain ⟨xs, n, _, _, hl, hlen, hf⟩ := DataW.trod_struct ht h
  refine ⟨hl, n, fun i f hi => ?_⟩
  have hi' : i < xs.length := by
    rw [hlen]
    exact (Array.getElem?_eq_some_iff.1 hi).1
  exact ⟨xs[i], by rw [hf i f hi, List.getElem?_eq_getElem hi']⟩
end Go.Proofs.Ytiknkolclcdajaa.R

/- How the laws' arguments of this seat are opened: what is read as data has the cells that the walks want. No condition. -/
namespace Go.Proofs.Ytiknkolclcdajaa.R
open Go.RowKit Go.Proofs.YtiknkolclcdajaaW.PrintWords Go.WideShapes Go.Proofs.Ytiknkolclcdajaa.Q
set_option linter.unusedVariables false
theorem cells_3 {cs : List Value} (h : cs.length = 3) : ∃ z0 z1 z2, cs = [z0, z1, z2] := by
  match cs, h with
  | [y0, y1, y2], _ => exact ⟨y0, y1, y2, rfl⟩
theorem cells_5 {cs : List Value} (h : cs.length = 5) : ∃ z0 z1 z2 z3 z4, cs = [z0, z1, z2, z3, z4] := by
  match cs, h with
  | [y0, y1, y2, y3, y4], _ => exact ⟨y0, y1, y2, y3, y4, rfl⟩
def WF_LItem (x : S_LItem) : Prop := ((Lit.int .i64 x.f0).wf = true) ∧ (x.f1.size ≤ maxLen) ∧ (x.f2.size ≤ maxLen) ∧ ((Lit.int .i64 x.f3).wf = true) ∧ ((Lit.int .i64 x.f4).wf = true)
theorem rd_LItem : Rd Try.prog 184 k_LItem WF_LItem := by
  intro H enc W base spare held fuel cs x h
  obtain ⟨hl, n, hf⟩ := rd_fields Try.underlying184 h
  have hl' : cs.length = 5 := hl.trans (by kernel_rfl)
  obtain ⟨z0, z1, z2, z3, z4, rfl⟩ := cells_5 hl'
  have cc3 : Try.prog.cellsOf 3 = 1 := by kernel_rfl
  have cc9 : Try.prog.cellsOf 9 = 1 := by kernel_rfl
  obtain ⟨e0, he0⟩ := hf 0 _ rfl
  have hc0 : DataW.trod enc Try.prog W base spare held n 3 [z0] = some e0 := by simpa [cc3] using he0
  obtain ⟨b0, hk0, w0⟩ := (rd_int Try.underlying3) H enc W base spare held n [z0] _ hc0
  obtain rfl : z0 = .int .i64 b0 := by injection hk0
  obtain ⟨e1, he1⟩ := hf 1 _ rfl
  have hc1 : DataW.trod enc Try.prog W base spare held n 9 [z1] = some e1 := by simpa [cc9] using he1
  obtain ⟨b1, hk1, w1⟩ := (rd_string Try.underlying9) H enc W base spare held n [z1] _ hc1
  obtain rfl : z1 = .string b1 := by injection hk1
  obtain ⟨e2, he2⟩ := hf 2 _ rfl
  have hc2 : DataW.trod enc Try.prog W base spare held n 9 [z2] = some e2 := by simpa [cc9] using he2
  obtain ⟨b2, hk2, w2⟩ := (rd_string Try.underlying9) H enc W base spare held n [z2] _ hc2
  obtain rfl : z2 = .string b2 := by injection hk2
  obtain ⟨e3, he3⟩ := hf 3 _ rfl
  have hc3 : DataW.trod enc Try.prog W base spare held n 3 [z3] = some e3 := by simpa [cc3] using he3
  obtain ⟨b3, hk3, w3⟩ := (rd_int Try.underlying3) H enc W base spare held n [z3] _ hc3
  obtain rfl : z3 = .int .i64 b3 := by injection hk3
  obtain ⟨e4, he4⟩ := hf 4 _ rfl
  have hc4 : DataW.trod enc Try.prog W base spare held n 3 [z4] = some e4 := by simpa [cc3] using he4
  obtain ⟨b4, hk4, w4⟩ := (rd_int Try.underlying3) H enc W base spare held n [z4] _ hc4
  obtain rfl : z4 = .int .i64 b4 := by injection hk4
  exact ⟨⟨b0, b1, b2, b3, b4⟩, k_LItem_mk W ⟨b0, b1, b2, b3, b4⟩ , ⟨w0, w1, w2, w3, w4⟩⟩
theorem open_LRow {H : Type} {enc : TypeId × Value → H} {W : World} {base : Nat} {spare : Nat → Bool} {held : Bool} {fuel : Nat} {cs : List Value} {x : DataW H × List MemPlace} (h : DataW.trod enc Try.prog W base spare held fuel 53 cs = some x) :
    ∃ (b0 : Int) (b1 : Int) (b2 : List S_LItem) (A2 : Option Addr) (c2 : Nat), cs = [.int .i64 b0, .int .i64 b1, .slice A2 b2.length c2] ∧ ((Lit.int .i64 b0).wf = true) ∧ ((Lit.int .i64 b1).wf = true) ∧ (b2.length ≤ maxLen ∧ ∀ y ∈ b2, WF_LItem y) ∧ b2.length ≤ c2 ∧ Kd.C k_LItem W A2 b2.length b2 := by
  obtain ⟨hl, n, hf⟩ := rd_fields Try.underlying53 h
  have hl' : cs.length = 3 := hl.trans (by kernel_rfl)
  obtain ⟨z0, z1, z2, rfl⟩ := cells_3 hl'
  have cc3 : Try.prog.cellsOf 3 = 1 := by kernel_rfl
  have cc51 : Try.prog.cellsOf 51 = 1 := by kernel_rfl
  obtain ⟨e0, he0⟩ := hf 0 _ rfl
  have hc0 : DataW.trod enc Try.prog W base spare held n 3 [z0] = some e0 := by simpa [cc3] using he0
  obtain ⟨b0, hk0, w0⟩ := (rd_int Try.underlying3) H enc W base spare held n [z0] _ hc0
  obtain rfl : z0 = .int .i64 b0 := by injection hk0
  obtain ⟨e1, he1⟩ := hf 1 _ rfl
  have hc1 : DataW.trod enc Try.prog W base spare held n 3 [z1] = some e1 := by simpa [cc3] using he1
  obtain ⟨b1, hk1, w1⟩ := (rd_int Try.underlying3) H enc W base spare held n [z1] _ hc1
  obtain rfl : z1 = .int .i64 b1 := by injection hk1
  obtain ⟨e2, he2⟩ := hf 2 _ rfl
  have hc2 : DataW.trod enc Try.prog W base spare held n 51 [z2] = some e2 := by simpa [cc51] using he2
  obtain ⟨b2, hk2, w2⟩ := (rd_slice Try.underlying51 (by kernel_rfl) rd_LItem) H enc W base spare held n [z2] _ hc2
  obtain ⟨A2, c2, hz2, l2, g2⟩ := hk2
  obtain rfl : z2 = .slice A2 b2.length c2 := by injection hz2
  exact ⟨b0, b1, b2, A2, c2, rfl, w0, w1, w2, l2, g2⟩
end Go.Proofs.Ytiknkolclcdajaa.R

/- Small words for plain proofs: what comes to its answer at enough rounds, one step at a time; whole numbers of 64 bits. No condition. -/
namespace Go.Proofs.Ytiknkolclcdajaa.L
open Go.RowKit Go.Proofs.YtiknkolclcdajaaW.PrintWords Go.Proofs.YtiknkolclcdajaaW.PrintLast Go.Proofs.YtiknkolclcdajaaW.PrintMore

theorem ev_pos {α : Type} {c : Prop} [Decidable c] {f g : Nat → Option α} {r : α} (h : c) (k : Ev f r) : Ev (fun n => if c then f n else g n) r := by
  simpa only [if_pos h] using k
theorem ev_neg {α : Type} {c : Prop} [Decidable c] {f g : Nat → Option α} {r : α} (h : ¬ c) (k : Ev g r) : Ev (fun n => if c then f n else g n) r := by
  simpa only [if_neg h] using k
theorem ev_ite {α : Type} {c : Prop} [Decidable c] {f g : Nat → Option α} {r : α} (h : c → Ev f r) (k : ¬ c → Ev g r) : Ev (fun n => if c then f n else g n) r := by
  by_cases hc : c
  · exact ev_pos hc (h hc)
  · exact ev_neg hc (k hc)
theorem ev_some {α β : Type} {g : Option α} {f : Nat → α → Option β} {a : α} {r : β} (h : g = some a) (k : Ev (fun n => f n a) r) : Ev (fun n => g.bind (f n)) r := by
  subst h
  exact k
theorem ev_bind {α β : Type} {g : Nat → Option α} {f : Nat → α → Option β} {a : α} {r : β} (h : Ev g a) (k : Ev (fun n => f n a) r) : Ev (fun n => (g n).bind (f n)) r := Ev.bind h k
/-- one round more -/
theorem ev_step {α : Type} {g f : Nat → Option α} {r : α} (h : ∀ k, g (k + 1) = f k) (k : Ev f r) : Ev g r := Ev.step h k
theorem ev_eq {α : Type} {g : Nat → Option α} {r r' : α} (h : r = r') (k : Ev g r) : Ev g r' := h ▸ k
theorem ev_now {α : Type} {r r' : α} (h : r = r') : Ev (fun _ => some r) r' := h ▸ Ev.now r

theorem wf_i64 {x : Int} (h : (Lit.int .i64 x).wf = true) : -9223372036854775808 ≤ x ∧ x ≤ 9223372036854775807 := by
  simp [Lit.wf, IntKind.min, IntKind.max, IntKind.bits, IntKind.signed] at h
  exact h
theorem wf_u8 {x : Int} (h : (Lit.int .u8 x).wf = true) : 0 ≤ x ∧ x ≤ 255 := by
  simp [Lit.wf, IntKind.min, IntKind.max, IntKind.bits, IntKind.signed] at h
  exact h
theorem w64 {x : Int} (h0 : -9223372036854775808 ≤ x) (h1 : x ≤ 9223372036854775807) : wrap64 x = x := by
  unfold wrap64
  omega
theorem rd_eq (xs : List Int) (i : Nat) (h : i < xs.length) : rd xs (i : Int) = xs[i] := by
  simp [rd, List.getD_eq_getElem?_getD, h]
end Go.Proofs.Ytiknkolclcdajaa.L

/- The plain side of numbers within bounds: program and reference come to one answer. No condition. -/
namespace Go.Proofs.Ytiknkolclcdajaa.L
open Go.RowKit Go.Proofs.YtiknkolclcdajaaW.PrintWords Go.Proofs.YtiknkolclcdajaaW.PrintLast Go.Proofs.YtiknkolclcdajaaW.PrintMore Go.Proofs.Ytiknkolclcdajaa.Q

/-- is a number within bounds -/
def inb (x a b : Int) : Bool := decide (a ≤ x) && decide (x ≤ b)
theorem specIn (x a b : Int) : spec_l1In.f x a b = some (inb x a b) := by
  unfold spec_l1In.f inb
  by_cases h : x ≥ a
  · rw [if_pos h]; simp [show a ≤ x from h]
  · rw [if_neg h]; simp [show ¬ a ≤ x from h]
theorem implIn (x a b : Int) : impl_within.f x a b = some (inb x a b) := by
  unfold impl_within.f inb
  by_cases h : x ≥ a
  · rw [if_pos h]; simp [show a ≤ x from h]
  · rw [if_neg h]; simp [show ¬ a ≤ x from h]
theorem inb_true {x a b : Int} : inb x a b = true ↔ a ≤ x ∧ x ≤ b := by simp [inb]
theorem ev_and {g : Nat → Option Bool} {c d : Bool} (h : c = true → Ev g d) : Ev (fun n => if c = true then (g n) else some false) (c && d) := by
  cases c with
  | false => exact ev_neg (by simp) (ev_now rfl)
  | true => exact ev_pos rfl (by simpa using h rfl)

end Go.Proofs.Ytiknkolclcdajaa.L

/- The plain side of GroupMark and OwnerOf: program and reference come to one answer. Condition: lists of at most 2^20 elements. -/
namespace Go.Proofs.Ytiknkolclcdajaa.L
open Go.RowKit Go.Proofs.YtiknkolclcdajaaW.PrintWords Go.Proofs.YtiknkolclcdajaaW.PrintLast Go.Proofs.YtiknkolclcdajaaW.PrintMore Go.Proofs.Ytiknkolclcdajaa.Q

theorem owner (g : Int) (m b o : List Int) (row : Int) : ∃ r, spec_OwnerOf.f g m b o row = some r ∧ impl_OwnerOf.f g m b o row = some r := by
  unfold spec_OwnerOf.f impl_OwnerOf.f
  split
  · exact ⟨_, rfl, rfl⟩
  · split
    · exact ⟨_, rfl, rfl⟩
    · have h1 : 0 ≤ Int.tmod row (m.length : Int) := by rw [Int.tmod_eq_emod_of_nonneg (by omega)]; exact Int.emod_nonneg _ (by omega)
      have h2 : Int.tmod row (m.length : Int) < (m.length : Int) := by rw [Int.tmod_eq_emod_of_nonneg (by omega)]; exact Int.emod_lt_of_pos _ (by omega)
      rw [if_pos h1, if_pos h2]
      exact ⟨_, rfl, rfl⟩
theorem specCopy (g : Int) (m b o : List Int) (hm : m.length ≤ 1048576) (hb : b.length ≤ 1048576) (ho : o.length ≤ 1048576) : spec_l5Copy.f g m b o = some (g, m, b, o) := by
  unfold spec_l5Copy.f
  simp only [Option.bind_some, List.length_nil, List.nil_append]
  rw [if_pos (by omega), if_pos (by omega), if_pos (by omega)]
theorem implInts (l : List Int) (hl : l.length ≤ 1048576) : impl_copyInts.f l = some l := by
  unfold impl_copyInts.f
  simp only [List.length_nil, List.nil_append]
  rw [if_pos (by omega)]
theorem implCopy (g : Int) (m b o : List Int) (hm : m.length ≤ 1048576) (hb : b.length ≤ 1048576) (ho : o.length ≤ 1048576) : impl_copyGroup.f g m b o = some (g, m, b, o) := by
  unfold impl_copyGroup.f
  rw [implInts m hm, Option.bind_some, implInts b hb, Option.bind_some, implInts o ho, Option.bind_some]
/-- what GroupMark comes to -/
theorem groupMark (g : Int) (m b o : List Int) (who gen row off : Int) (hm : m.length ≤ 1048576) (hb : b.length ≤ 1048576) (ho : o.length ≤ 1048576) :
    ∃ (o' : List Int) (ok : Bool), o'.length = o.length ∧ (ok = false → o' = o) ∧ (ok = true → 0 ≤ row ∧ row < (o.length : Int) ∧ o' = o.set row.toNat off ∧ rd o row ≤ off ∧ gen = g ∧ impl_OwnerOf.f g m b o row = some who) ∧
      Ev (fun k => spec_GroupMark.f k g m b o who gen row off) (g, m, b, o', ok) ∧ Ev (fun k => impl_GroupMark.f k g m b o who gen row off) (g, m, b, o', ok) := by
  have no : ∀ c : Bool, c = true → Ev (fun k => spec_GroupMark.j0 k row off c g m b o) (g, m, b, o, false) := fun c hc => ev_step (fun _ => rfl) (ev_pos hc (ev_now rfl))
  have no' : ∀ c : Bool, c = true → Ev (fun k => impl_GroupMark.j0 k row off c g m b o) (g, m, b, o, false) := fun c hc => ev_step (fun _ => rfl) (ev_pos hc (ev_now rfl))
  have e : wrap64 ((o.length : Int) - 1) = (o.length : Int) - 1 := w64 (by omega) (by omega)
  obtain ⟨w, w1, w2⟩ := owner g m b o row
  by_cases h1 : gen = g
  · by_cases h2 : inb row 0 ((o.length : Int) - 1) = true
    · have h2' := inb_true.mp h2
      by_cases h3 : w = who
      · by_cases h4 : off < rd o row
        · refine ⟨o, false, rfl, fun _ => rfl, fun h => by simp at h, ?_, ?_⟩
          · refine ev_some (specCopy g m b o hm hb ho) (ev_pos h1 (ev_some (specIn _ _ _) ?_))
            rw [e]
            exact ev_pos h2 (ev_some w1 (ev_pos h3 (ev_pos (by omega) (ev_pos (by omega) (no _ (decide_eq_true h4))))))
          · refine ev_some (implCopy g m b o hm hb ho) (ev_pos h1 (ev_some (implIn _ _ _) ?_))
            rw [e]
            exact ev_pos h2 (ev_some w2 (ev_pos h3 (ev_pos (by omega) (ev_pos (by omega) (no' _ (decide_eq_true h4))))))
        · refine ⟨o.set row.toNat off, true, by simp, fun h => by simp at h, fun _ => ⟨h2'.1, by omega, rfl, by omega, h1, by rw [w2, h3]⟩, ?_, ?_⟩
          · refine ev_some (specCopy g m b o hm hb ho) (ev_pos h1 (ev_some (specIn _ _ _) ?_))
            rw [e]
            refine ev_pos h2 (ev_some w1 (ev_pos h3 (ev_pos (by omega) (ev_pos (by omega) ?_))))
            exact ev_step (fun _ => rfl) (ev_neg (by simpa using h4) (ev_pos (show (0:Int) ≤ row by omega) (ev_pos (show row < (o.length : Int) by omega) (ev_now rfl))))
          · refine ev_some (implCopy g m b o hm hb ho) (ev_pos h1 (ev_some (implIn _ _ _) ?_))
            rw [e]
            refine ev_pos h2 (ev_some w2 (ev_pos h3 (ev_pos (by omega) (ev_pos (by omega) ?_))))
            exact ev_step (fun _ => rfl) (ev_neg (by simpa using h4) (ev_pos (show (0:Int) ≤ row by omega) (ev_pos (show row < (o.length : Int) by omega) (ev_now rfl))))
      · refine ⟨o, false, rfl, fun _ => rfl, fun h => by simp at h, ?_, ?_⟩
        · refine ev_some (specCopy g m b o hm hb ho) (ev_pos h1 (ev_some (specIn _ _ _) ?_))
          rw [e]
          exact ev_pos h2 (ev_some w1 (ev_neg h3 (no _ rfl)))
        · refine ev_some (implCopy g m b o hm hb ho) (ev_pos h1 (ev_some (implIn _ _ _) ?_))
          rw [e]
          exact ev_pos h2 (ev_some w2 (ev_neg h3 (no' _ rfl)))
    · refine ⟨o, false, rfl, fun _ => rfl, fun h => by simp at h, ?_, ?_⟩
      · refine ev_some (specCopy g m b o hm hb ho) (ev_pos h1 (ev_some (specIn _ _ _) ?_))
        rw [e]
        exact ev_neg h2 (no _ rfl)
      · refine ev_some (implCopy g m b o hm hb ho) (ev_pos h1 (ev_some (implIn _ _ _) ?_))
        rw [e]
        exact ev_neg h2 (no' _ rfl)
  · refine ⟨o, false, rfl, fun _ => rfl, fun h => by simp at h, ?_, ?_⟩
    · exact ev_some (specCopy g m b o hm hb ho) (ev_neg h1 (no _ rfl))
    · exact ev_some (implCopy g m b o hm hb ho) (ev_neg h1 (no' _ rfl))
end Go.Proofs.Ytiknkolclcdajaa.L

/- What is drawn: a draw comes to its end, and its answer keeps to bounds. Condition: a cursor that stands at no place below 0. -/
set_option linter.unusedVariables false
namespace Go.Proofs.Ytiknkolclcdajaa.L
open Go.RowKit Go.Proofs.YtiknkolclcdajaaW.PrintWords Go.Proofs.YtiknkolclcdajaaW.PrintLast Go.Proofs.YtiknkolclcdajaaW.PrintMore Go.Proofs.Ytiknkolclcdajaa.Q

/-- it comes to an answer, at enough rounds, of which P is true -/
def Dr {α : Type} (f : Nat → Option α) (P : α → Prop) : Prop := ∃ r, Ev f r ∧ P r
theorem dr_now {α : Type} {r : α} {P : α → Prop} (h : P r) : Dr (fun _ => some r) P := ⟨r, ev_now rfl, h⟩
theorem dr_of {α : Type} {f : Nat → Option α} {r : α} {P : α → Prop} (h : Ev f r) (k : P r) : Dr f P := ⟨r, h, k⟩
theorem dr_bind {α β : Type} {g : Nat → Option α} {f : Nat → α → Option β} {P : α → Prop} {Q : β → Prop} (h : Dr g P) (k : ∀ a, P a → Dr (fun n => f n a) Q) : Dr (fun n => (g n).bind (f n)) Q := by
  obtain ⟨a, ha, pa⟩ := h
  obtain ⟨b, hb, qb⟩ := k a pa
  exact ⟨b, ev_bind ha hb, qb⟩
theorem dr_some {α β : Type} {g : Option α} {f : Nat → α → Option β} {P : α → Prop} {Q : β → Prop} (h : ∃ a, g = some a ∧ P a) (k : ∀ a, P a → Dr (fun n => f n a) Q) : Dr (fun n => g.bind (f n)) Q := by
  obtain ⟨a, rfl, pa⟩ := h
  exact k a pa
theorem dr_eq {α β : Type} {g : Option α} {f : Nat → α → Option β} {a : α} {Q : β → Prop} (h : g = some a) (k : Dr (fun n => f n a) Q) : Dr (fun n => g.bind (f n)) Q := by
  subst h
  exact k
theorem dr_pos {α : Type} {c : Prop} [Decidable c] {f g : Nat → Option α} {P : α → Prop} (h : c) (k : Dr f P) : Dr (fun n => if c then f n else g n) P := by
  simpa only [if_pos h] using k
theorem dr_neg {α : Type} {c : Prop} [Decidable c] {f g : Nat → Option α} {P : α → Prop} (h : ¬ c) (k : Dr g P) : Dr (fun n => if c then f n else g n) P := by
  simpa only [if_neg h] using k
theorem dr_ite {α : Type} {c : Prop} [Decidable c] {f g : Nat → Option α} {P : α → Prop} (h : c → Dr f P) (k : ¬ c → Dr g P) : Dr (fun n => if c then f n else g n) P := by
  by_cases hc : c
  · exact dr_pos hc (h hc)
  · exact dr_neg hc (k hc)
theorem dr_step {α : Type} {g f : Nat → Option α} {P : α → Prop} (h : ∀ k, g (k + 1) = f k) (k : Dr f P) : Dr g P := by
  obtain ⟨r, hr, p⟩ := k
  exact ⟨r, ev_step h hr, p⟩
theorem dr_mono {α : Type} {f : Nat → Option α} {P Q : α → Prop} (h : Dr f P) (k : ∀ a, P a → Q a) : Dr f Q := by
  obtain ⟨r, hr, p⟩ := h
  exact ⟨r, hr, k r p⟩

theorem and255 (n : Int) : Go.bits .and .i64 n 255 = n % 256 := by
  have h255 : (BitVec.ofInt 64 255).toNat = 2 ^ 8 - 1 := by decide
  have key : (BitVec.ofInt 64 n &&& BitVec.ofInt 64 255).toNat = (n % ((2 ^ 64 : Nat) : Int)).toNat % 2 ^ 8 := by
    rw [BitVec.toNat_and, BitVec.toNat_ofInt, h255, Nat.and_two_pow_sub_one_eq_mod]
  show IntKind.i64.wrap ((BitVec.ofInt 64 n &&& BitVec.ofInt 64 255).toNat : Nat) = n % 256
  rw [key, IntKind.wrap_i64]
  omega
/-- a cursor's place is one that it may stand at -/
def okC (i : Int) : Prop := 0 ≤ i ∧ i ≤ 1048576
theorem okC_zero : okC 0 := by unfold okC; omega
theorem l1New_l0 (l : List Int) (hl : l.length ≤ 1048576) : ∀ (d i : Nat) (h : Int), i + d = l.length → Dr (fun k => spec_l1New.l0 k l h (i : Int)) (fun r => r.1 = l ∧ okC r.2.1) := by
  intro d
  induction d with
  | zero => intro i h q; exact dr_step (fun _ => rfl) (dr_neg (by omega) (dr_now ⟨rfl, okC_zero⟩))
  | succ d ih =>
    intro i h q
    have e : wrap64 ((i : Int) + 1) = ((i + 1 : Nat) : Int) := by rw [w64 (by omega) (by omega)]; omega
    refine dr_step (fun _ => rfl) (dr_pos (by omega) (dr_ite (fun _ => dr_pos (by omega) ?_) (fun _ => dr_now ⟨rfl, okC_zero⟩)))
    rw [e]
    exact ih (i + 1) _ (by omega)
theorem l1New (l : List Int) (hl : l.length ≤ 1048576) : Dr (fun k => spec_l1New.f k l) (fun r => r.1 = l ∧ okC r.2.1) := l1New_l0 l hl l.length 0 _ (by omega)
theorem l1Byte (l : List Int) (hl : l.length ≤ 1048576) (i h : Int) (hi : okC i) : ∃ r, spec_l1Byte.f l i h = some r ∧ 0 ≤ r.1 ∧ r.1 ≤ 255 ∧ okC r.2.1 := by
  unfold okC at hi
  unfold spec_l1Byte.f
  simp only [and255]
  split
  · rw [if_pos hi.1]
    refine ⟨_, rfl, ?_, ?_, ?_⟩
    · show 0 ≤ _ % 256
      omega
    · show _ % 256 ≤ 255
      omega
    · show 0 ≤ wrap64 (i + 1) ∧ wrap64 (i + 1) ≤ 1048576
      rw [w64 (by omega) (by omega)]
      omega
  · refine ⟨_, rfl, ?_, ?_, hi⟩
    · show 0 ≤ _ % 256
      omega
    · show _ % 256 ≤ 255
      omega
theorem l1Below (l : List Int) (hl : l.length ≤ 1048576) (i h n : Int) (hi : okC i) (hn : n ≤ 2147483647) : ∃ r, spec_l1Below.f l i h n = some r ∧ 0 ≤ r.1 ∧ (0 < n → r.1 < n) ∧ okC r.2.1 := by
  unfold spec_l1Below.f
  split
  · exact ⟨_, rfl, by show (0 : Int) ≤ 0; omega, fun _ => by omega, hi⟩
  · split
    · obtain ⟨r, hr, h0, h1, h2⟩ := l1Byte l hl i h hi
      rw [hr, Option.bind_some, if_neg (by omega)]
      refine ⟨_, rfl, ?_, fun _ => ?_, h2⟩
      · show 0 ≤ Int.tmod r.1 n
        rw [Int.tmod_eq_emod_of_nonneg h0]
        exact Int.emod_nonneg _ (by omega)
      · show Int.tmod r.1 n < n
        rw [Int.tmod_eq_emod_of_nonneg h0]
        exact Int.emod_lt_of_pos _ (by omega)
    · obtain ⟨a, ha, a0, a1, ai⟩ := l1Byte l hl i h hi
      obtain ⟨b, hb, b0, b1, bi⟩ := l1Byte l hl a.2.1 a.2.2 ai
      obtain ⟨c, hc, c0, c1, ci⟩ := l1Byte l hl b.2.1 b.2.2 bi
      obtain ⟨d, hd, d0, d1, di⟩ := l1Byte l hl c.2.1 c.2.2 ci
      rw [ha, Option.bind_some, hb, Option.bind_some, hc, Option.bind_some, hd, Option.bind_some, if_neg (by omega)]
      have e1 : wrap64 (a.1 * 16777216) = a.1 * 16777216 := w64 (by omega) (by omega)
      have e2 : wrap64 (b.1 * 65536) = b.1 * 65536 := w64 (by omega) (by omega)
      have e3 : wrap64 (c.1 * 256) = c.1 * 256 := w64 (by omega) (by omega)
      have e4 : wrap64 (a.1 * 16777216 + b.1 * 65536) = a.1 * 16777216 + b.1 * 65536 := w64 (by omega) (by omega)
      have e5 : wrap64 (a.1 * 16777216 + b.1 * 65536 + c.1 * 256) = a.1 * 16777216 + b.1 * 65536 + c.1 * 256 := w64 (by omega) (by omega)
      have e6 : wrap64 (a.1 * 16777216 + b.1 * 65536 + c.1 * 256 + d.1) = a.1 * 16777216 + b.1 * 65536 + c.1 * 256 + d.1 := w64 (by omega) (by omega)
      rw [e1, e2, e3, e4, e5, e6]
      refine ⟨_, rfl, ?_, fun _ => ?_, di⟩
      · show 0 ≤ Int.tmod _ n
        rw [Int.tmod_eq_emod_of_nonneg (by omega)]
        exact Int.emod_nonneg _ (by omega)
      · show Int.tmod _ n < n
        rw [Int.tmod_eq_emod_of_nonneg (by omega)]
        exact Int.emod_lt_of_pos _ (by omega)
theorem l1Once (l : List Int) (hl : l.length ≤ 1048576) (i h n : Int) (hi : okC i) (hn : n ≤ 2147483647) : ∃ r, spec_l1Once.f l i h n = some r ∧ okC r.2.1 := by
  obtain ⟨r, hr, _, _, h2⟩ := l1Below l hl i h n hi hn
  unfold spec_l1Once.f
  rw [hr, Option.bind_some]
  exact ⟨_, rfl, h2⟩
theorem l1PickInt (l : List Int) (hl : l.length ≤ 1048576) (i h : Int) (xs : List Int) (hi : okC i) (h0 : 0 < xs.length) (hn : xs.length ≤ 1048576) : ∃ r, spec_l1PickInt.f l i h xs = some r ∧ r.1 ∈ xs ∧ okC r.2.1 := by
  obtain ⟨r, hr, r0, r1, h2⟩ := l1Below l hl i h (xs.length : Int) hi (by omega)
  have r1 := r1 (by omega)
  unfold spec_l1PickInt.f
  rw [hr, Option.bind_some, if_pos r0, if_pos r1]
  refine ⟨_, rfl, ?_, h2⟩
  obtain ⟨j, hj⟩ := Int.eq_ofNat_of_zero_le r0
  show rd xs r.1 ∈ xs
  rw [hj]
  have : j < xs.length := by omega
  show rd xs (j : Int) ∈ xs
  rw [rd_eq xs j this]
  exact List.getElem_mem _
end Go.Proofs.Ytiknkolclcdajaa.L

/- The plain side of drawn groups: a draw comes to its end, with lists of bounded lengths. Condition: a cursor that stands at no place below 0. -/
namespace Go.Proofs.Ytiknkolclcdajaa.L
open Go.RowKit Go.Proofs.YtiknkolclcdajaaW.PrintWords Go.Proofs.YtiknkolclcdajaaW.PrintLast Go.Proofs.YtiknkolclcdajaaW.PrintMore Go.Proofs.Ytiknkolclcdajaa.Q

theorem groupNewD (r : Int) (h0 : 1 ≤ r) (h1 : r ≤ 4) : ∃ o : List Int, o.length = r.toNat ∧ spec_GroupNew.f r = some (0, [], [], o) := by
  have h : inb r 1 4 = true := inb_true.mpr ⟨h0, h1⟩
  unfold spec_GroupNew.f
  rw [specIn]
  simp only [Option.bind_some, if_pos h, if_pos (show 0 ≤ r by omega), if_pos (show r.toNat ≤ 35184372088832 by omega)]
  exact ⟨_, by simp, rfl⟩
theorem l5At_l0 (who g : Int) (m b o : List Int) (hm : m.length ≤ 1048576) : ∀ (d i : Nat), i + d = m.length → Dr (fun k => spec_l5At.l0 k who (i : Int) g m b o) (fun r => -1 ≤ r ∧ r < (m.length : Int)) := by
  intro d
  induction d with
  | zero => intro i h; exact dr_step (fun _ => rfl) (dr_neg (by omega) (dr_now ⟨by omega, by omega⟩))
  | succ d ih =>
    intro i h
    have e : wrap64 ((i : Int) + 1) = ((i + 1 : Nat) : Int) := by rw [w64 (by omega) (by omega)]; omega
    refine dr_step (fun _ => rfl) (dr_pos (by omega) (dr_pos (by omega) (dr_ite (fun _ => dr_now ⟨by omega, by omega⟩) (fun _ => ?_))))
    rw [e]
    exact ih (i + 1) (by omega)
theorem l5At (g : Int) (m b o : List Int) (who : Int) (hm : m.length ≤ 1048576) : Dr (fun k => spec_l5At.f k g m b o who) (fun r => -1 ≤ r ∧ r < (m.length : Int)) := l5At_l0 who g m b o hm m.length 0 (by omega)
/-- a group that keeps to bounds: n members and beats at the most, so many offsets -/
def okG (n q : Nat) (x : Int × List Int × List Int × List Int) : Prop := x.2.1.length ≤ n ∧ x.2.2.1.length ≤ n ∧ x.2.2.2.length = q
theorem l5Without (g : Int) (m b o : List Int) (a : Int) (hm : m.length ≤ 1048576) (hb : b.length ≤ 1048576) (ho : o.length ≤ 1048576) (h0 : 0 ≤ a) (h1 : a < (m.length : Int)) :
    ∃ m' b' : List Int, spec_l5Without.f g m b o a = some (g, m', b', o) ∧ m'.length + 1 = m.length ∧ b'.length ≤ b.length := by
  have e : wrap64 (a + 1) = a + 1 := w64 (by omega) (by omega)
  unfold spec_l5Without.f
  rw [specCopy g m b o hm hb ho, Option.bind_some]
  simp only [Option.bind_some, e]
  rw [if_pos h0, if_pos (by omega), if_pos (by simp only [List.length_nil, List.length_take]; omega), if_pos (by omega), if_pos (by omega), if_pos (by simp only [List.length_append, List.length_nil, List.length_take, List.length_drop]; omega)]
  by_cases h : a < (b.length : Int)
  · rw [if_pos h, if_pos (by omega), if_pos (by simp only [List.length_nil, List.length_take]; omega), if_pos (by omega), if_pos (by simp only [List.length_append, List.length_nil, List.length_take, List.length_drop]; omega)]
    refine ⟨_, _, rfl, ?_, ?_⟩
    · simp only [List.length_append, List.length_nil, List.length_take, List.length_drop]; omega
    · simp only [List.length_append, List.length_nil, List.length_take, List.length_drop]; omega
  · rw [if_neg h]
    refine ⟨_, _, rfl, ?_, Nat.le_refl _⟩
    simp only [List.length_append, List.length_nil, List.length_take, List.length_drop]; omega
theorem l5Up (g : Int) : ∃ r, spec_l5Up.f g = some r := by
  unfold spec_l5Up.f
  split
  · exact ⟨_, rfl⟩
  · exact ⟨_, rfl⟩
theorem leaveD (n q : Nat) (g : Int) (m b o : List Int) (who : Int) (hn : n ≤ 1048576) (hq : q ≤ 1048576) (h : okG n q (g, m, b, o)) : Dr (fun k => spec_GroupLeave.f k g m b o who) (okG n q) := by
  obtain ⟨hm, hb, ho⟩ := h
  simp only at hm hb ho
  refine dr_bind (l5At g m b o who (by omega)) (fun a ha => ?_)
  have copy : ∀ c : Bool, c = true → Dr (fun k => spec_GroupLeave.j0 k a c g m b o) (okG n q) := fun c hc => by
    refine dr_step (fun _ => by rw [spec_GroupLeave.j0]) ?_
    exact dr_pos hc (dr_eq (specCopy g m b o (by omega) (by omega) (by omega)) (dr_now ⟨hm, hb, ho⟩))
  refine dr_ite (fun _ => copy true rfl) (fun hneg => dr_eq (specIn who 0 3) ?_)
  cases hi : inb who 0 3 with
  | false => exact copy _ rfl
  | true =>
    obtain ⟨m', b', e, e1, e2⟩ := l5Without g m b o a (by omega) (by omega) (by omega) (by omega) ha.2
    obtain ⟨u, hu⟩ := l5Up g
    refine dr_step (fun _ => by rw [spec_GroupLeave.j0]) ?_
    refine dr_neg (by simp) (dr_eq e (dr_eq hu (dr_now ?_)))
    exact ⟨by show m'.length ≤ n; omega, by show b'.length ≤ n; omega, ho⟩
set_option linter.unusedVariables false
theorem tickD_l0 (n q : Nat) (g t : Int) (m b o : List Int) (hn : n ≤ 1048576) (hq : q ≤ 1048576) : ∀ (i : Nat) (c : Bool) (x : Int × List Int × List Int × List Int), okG n q x → i ≤ x.2.1.length →
    Dr (fun k => spec_GroupTick.l0 k t c ((i : Int) - 1) g m b o x.1 x.2.1 x.2.2.1 x.2.2.2) (okG n q) := by
  intro i
  induction i with
  | zero =>
    intro c x hx hi
    obtain ⟨u, hu⟩ := l5Up g
    refine dr_step (fun _ => rfl) (dr_neg (by omega) (dr_ite (fun _ => dr_eq hu (dr_now hx)) (fun _ => dr_now hx)))
  | succ i ih =>
    intro c x hx hi
    obtain ⟨hxm, hxb, hxo⟩ := hx
    have e0 : ((i + 1 : Nat) : Int) - 1 = (i : Int) := by omega
    have e : wrap64 ((i : Int) - 1) = (i : Int) - 1 := w64 (by omega) (by omega)
    rw [e0]
    have stay : Dr (fun k => spec_GroupTick.l0 k t c (wrap64 ((i : Int) - 1)) g m b o x.1 x.2.1 x.2.2.1 x.2.2.2) (okG n q) := by rw [e]; exact ih c x ⟨hxm, hxb, hxo⟩ (by omega)
    have gone : Dr (fun k => (spec_l5Without.f x.1 x.2.1 x.2.2.1 x.2.2.2 (i : Int)).bind fun bt => spec_GroupTick.l0 k t true (wrap64 ((i : Int) - 1)) g m b o bt.1 bt.2.1 bt.2.2.1 bt.2.2.2) (okG n q) := by
      obtain ⟨m', b', q1, q2, q3⟩ := l5Without x.1 x.2.1 x.2.2.1 x.2.2.2 (i : Int) (by omega) (by omega) (by omega) (by omega) (by omega)
      rw [e]
      exact dr_eq q1 (ih true (x.1, m', b', x.2.2.2) ⟨by show m'.length ≤ n; omega, by show b'.length ≤ n; omega, hxo⟩ (by show i ≤ m'.length; omega))
    refine dr_step (fun _ => rfl) (dr_pos (by omega) (dr_ite (fun _ => dr_pos (by omega) (dr_ite (fun _ => dr_ite (fun _ => gone) (fun _ => dr_ite (fun _ => gone) (fun _ => stay))) (fun _ => stay))) (fun _ => stay)))
theorem tickD (n q : Nat) (g : Int) (m b o : List Int) (t : Int) (hn : n ≤ 1048576) (hq : q ≤ 1048576) (h : okG n q (g, m, b, o)) : Dr (fun k => spec_GroupTick.f k g m b o t) (okG n q) := by
  obtain ⟨hm, hb, ho⟩ := h
  simp only at hm hb ho
  have e : wrap64 ((m.length : Int) - 1) = (m.length : Int) - 1 := w64 (by omega) (by omega)
  refine dr_eq (specCopy g m b o (by omega) (by omega) (by omega)) ?_
  rw [e]
  exact tickD_l0 n q g t m b o hn hq m.length false (g, m, b, o) ⟨hm, hb, ho⟩ (Nat.le_refl _)
theorem joinD_j4 (n q : Nat) (g w t : Int) (m b o : List Int) (x : Int × List Int × List Int × List Int) (hn : n ≤ 1048575) (hq : q ≤ 1048576) (h : okG n q (g, m, b, o)) (hx : okG n q x) (i : Nat) (hi : i ≤ m.length) (hj : i ≤ b.length) :
    Dr (fun k => spec_GroupJoin.j4 k w t (i : Int) g m b o x.1 x.2.1 x.2.2.1 x.2.2.2) (okG (n + 1) q) := by
  obtain ⟨hm, hb, ho⟩ := h
  simp only at hm hb ho
  obtain ⟨u, hu⟩ := l5Up g
  refine dr_step (fun _ => by rw [spec_GroupJoin.j4]) ?_
  refine dr_eq rfl ?_
  refine dr_pos (by omega) (dr_pos (by omega) (dr_pos (by simp only [List.length_nil, List.length_take]; omega) (dr_eq rfl ?_)))
  refine dr_pos (by simp only [List.length_append, List.length_nil, List.length_take]; omega) (dr_eq rfl ?_)
  refine dr_pos (by simp only [List.length_append, List.length_nil, List.length_take, List.length_drop, List.length_cons]; omega) (dr_eq rfl ?_)
  refine dr_pos (by omega) (dr_pos (by simp only [List.length_nil, List.length_take]; omega) (dr_eq rfl ?_))
  refine dr_pos (by simp only [List.length_append, List.length_nil, List.length_take]; omega) (dr_eq rfl ?_)
  refine dr_pos (by simp only [List.length_append, List.length_nil, List.length_take, List.length_drop, List.length_cons]; omega) (dr_eq hu (dr_now ⟨?_, ?_, hx.2.2⟩))
  · simp only [List.length_append, List.length_nil, List.length_take, List.length_drop, List.length_cons, Int.toNat_natCast]; omega
  · simp only [List.length_append, List.length_nil, List.length_take, List.length_drop, List.length_cons, Int.toNat_natCast]; omega
theorem joinD_l0 (n q : Nat) (g w t : Int) (m b o : List Int) (x : Int × List Int × List Int × List Int) (hn : n ≤ 1048575) (hq : q ≤ 1048576) (h : okG n q (g, m, b, o)) (hx : okG n q x) : ∀ (d i : Nat), i + d = m.length → i ≤ b.length →
    Dr (fun k => spec_GroupJoin.l0 k w t (i : Int) g m b o x.1 x.2.1 x.2.2.1 x.2.2.2) (okG (n + 1) q) := by
  have hm := h.1
  have hb := h.2.1
  simp only at hm hb
  intro d
  have stop : ∀ (i : Nat) (c : Bool), i ≤ m.length → i ≤ b.length → c = false → Dr (fun k => spec_GroupJoin.j3 k w t (i : Int) c g m b o x.1 x.2.1 x.2.2.1 x.2.2.2) (okG (n + 1) q) := fun i c h1 h2 hc => by
    refine dr_step (fun _ => by rw [spec_GroupJoin.j3]) ?_
    exact dr_neg (by simp [hc]) (joinD_j4 n q g w t m b o x hn hq h hx i h1 h2)
  induction d with
  | zero =>
    intro i q1 q2
    refine dr_step (fun _ => by rw [spec_GroupJoin.l0]) ?_
    refine dr_neg (by omega) (stop i false (by omega) q2 rfl)
  | succ d ih =>
    intro i q1 q2
    have e : wrap64 ((i : Int) + 1) = ((i + 1 : Nat) : Int) := by rw [w64 (by omega) (by omega)]; omega
    refine dr_step (fun _ => by rw [spec_GroupJoin.l0]) ?_
    refine dr_pos (by omega) (dr_ite (fun hb2 => dr_pos (by omega) ?_) (fun _ => stop i false (by omega) q2 rfl))
    cases hc : decide (rd m (i : Int) < w) with
    | false => exact stop i false (by omega) q2 rfl
    | true =>
      refine dr_step (fun _ => by rw [spec_GroupJoin.j3]) ?_
      refine dr_pos rfl ?_
      rw [e]
      exact ih (i + 1) (by omega) (by omega)
theorem joinD (n q : Nat) (g : Int) (m b o : List Int) (w t : Int) (hn : n ≤ 1048575) (hq : q ≤ 1048576) (h : okG n q (g, m, b, o)) : Dr (fun k => spec_GroupJoin.f k g m b o w t) (okG (n + 1) q) := by
  have hm := h.1
  have hb := h.2.1
  have ho := h.2.2
  simp only at hm hb ho
  refine dr_eq (specCopy g m b o (by omega) (by omega) (by omega)) (dr_eq (specIn w 0 3) (dr_ite (fun _ => ?_) (fun _ => dr_now ⟨by show m.length ≤ n + 1; omega, by show b.length ≤ n + 1; omega, ho⟩)))
  refine dr_step (fun _ => by rw [spec_GroupJoin.j0]) ?_
  refine dr_bind (l5At g m b o w (by omega)) (fun a ha => ?_)
  refine dr_ite (fun h0 => dr_ite (fun h1 => dr_pos h0 (dr_now ⟨?_, ?_, ho⟩)) (fun _ => dr_now ⟨by show m.length ≤ n + 1; omega, by show b.length ≤ n + 1; omega, ho⟩)) (fun _ => ?_)
  · show m.length ≤ n + 1
    omega
  · show (b.set a.toNat t).length ≤ n + 1
    rw [List.length_set]
    omega
  · refine dr_step (fun _ => by rw [spec_GroupJoin.j1]) ?_
    exact joinD_l0 n q g w t m b o (g, m, b, o) hn hq h h m.length 0 (by omega) (by omega)
theorem markD (n q : Nat) (g : Int) (m b o : List Int) (who gen row off : Int) (hn : n ≤ 1048576) (hq : q ≤ 1048576) (h : okG n q (g, m, b, o)) :
    Dr (fun k => spec_GroupMark.f k g m b o who gen row off) (fun r => okG n q (r.1, r.2.1, r.2.2.1, r.2.2.2.1)) := by
  obtain ⟨hm, hb, ho⟩ := h
  simp only at hm hb ho
  obtain ⟨o', ok, hl, _, _, e1, _⟩ := groupMark g m b o who gen row off (by omega) (by omega) (by omega)
  exact dr_of e1 ⟨hm, hb, by show o'.length = q; omega⟩
/-- a drawn group's bounds, and the cursor's -/
def okD (n q : Nat) (x : Int × List Int × List Int × List Int × Int × Int × Int) : Prop := x.2.1.length ≤ n ∧ x.2.2.1.length ≤ n ∧ x.2.2.2.1.length = q ∧ okC x.2.2.2.2.2.1
theorem rightD_l0 (l : List Int) (hl : l.length ≤ 1048576) (q : Nat) (hq : q ≤ 100) : ∀ (d i : Nat), i + d = 6 → ∀ (t ci ch : Int) (x : Int × List Int × List Int × List Int), okC ci → okG i q x →
    Dr (fun k => spec_l5DrawRight.l0 k (q : Int) t (i : Int) l ci ch x.1 x.2.1 x.2.2.1 x.2.2.2) (okD 6 q) := by
  intro d
  induction d with
  | zero =>
    intro i hi t ci ch x hc hx
    obtain ⟨r, hr, r0, r1, r2⟩ := l1Below l hl ci ch 7 hc (by omega)
    have := r1 (by omega)
    refine dr_step (fun _ => by rw [spec_l5DrawRight.l0]) ?_
    refine dr_eq hr (dr_neg (by omega) (dr_now ⟨?_, ?_, hx.2.2, r2⟩))
    · have := hx.1
      show x.2.1.length ≤ 6
      omega
    · have := hx.2.1
      show x.2.2.1.length ≤ 6
      omega
  | succ d ih =>
    intro i hi t ci ch x hc hx
    obtain ⟨r, hr, r0, r1, r2⟩ := l1Below l hl ci ch 7 hc (by omega)
    have e : wrap64 ((i : Int) + 1) = ((i + 1 : Nat) : Int) := by rw [w64 (by omega) (by omega)]; omega
    have up : ∀ y, okG i q y → okG (i + 1) q y := fun y hy => ⟨Nat.le_succ_of_le hy.1, Nat.le_succ_of_le hy.2.1, hy.2.2⟩
    refine dr_step (fun _ => by rw [spec_l5DrawRight.l0]) ?_
    refine dr_eq hr (dr_ite (fun _ => ?_) (fun _ => dr_now ⟨?_, ?_, hx.2.2, r2⟩))
    · refine dr_step (fun _ => by rw [spec_l5DrawRight.j1]) ?_
      refine dr_some (l1PickInt l hl _ _ _ r2 (by simp) (by simp)) (fun p hp => dr_some (l1Below l hl _ _ 5 hp.2 (by omega)) (fun s hs => ?_))
      rw [e]
      refine dr_ite (fun _ => ?_) (fun _ => dr_ite (fun _ => ?_) (fun _ => dr_ite (fun _ => ?_) (fun _ => ?_)))
      · refine dr_some (l1Below l hl _ _ 4 hs.2.2 (by omega)) (fun u hu => dr_bind (leaveD i q x.1 x.2.1 x.2.2.1 x.2.2.2 u.1 (by omega) (by omega) hx) (fun y hy => ?_))
        exact ih (i + 1) (by omega) _ _ _ y hu.2.2 (up y hy)
      · refine dr_bind (tickD i q x.1 x.2.1 x.2.2.1 x.2.2.2 _ (by omega) (by omega) hx) (fun y hy => ?_)
        exact ih (i + 1) (by omega) _ _ _ y hs.2.2 (up y hy)
      · refine dr_some (l1Below l hl _ _ 4 hs.2.2 (by omega)) (fun u hu => dr_some (l1Below l hl _ _ (q : Int) hu.2.2 (by omega)) (fun v hv => dr_some (l1Below l hl _ _ 9 hv.2.2 (by omega)) (fun z hz => ?_)))
        refine dr_bind (markD i q x.1 x.2.1 x.2.2.1 x.2.2.2 _ _ _ _ (by omega) (by omega) hx) (fun y hy => ?_)
        exact ih (i + 1) (by omega) _ _ _ (y.1, y.2.1, y.2.2.1, y.2.2.2.1) hz.2.2 (up _ hy)
      · refine dr_some (l1Below l hl _ _ 4 hs.2.2 (by omega)) (fun u hu => dr_bind (joinD i q x.1 x.2.1 x.2.2.1 x.2.2.2 _ _ (by omega) (by omega) hx) (fun y hy => ?_))
        exact ih (i + 1) (by omega) _ _ _ y hu.2.2 hy
    · have := hx.1
      show x.2.1.length ≤ 6
      omega
    · have := hx.2.1
      show x.2.2.1.length ≤ 6
      omega
theorem l5DrawRight (l : List Int) (hl : l.length ≤ 1048576) (ci ch : Int) (hc : okC ci) : Dr (fun k => spec_l5DrawRight.f k l ci ch) (fun x => ∃ q, 1 ≤ q ∧ q ≤ 3 ∧ okD 6 q x) := by
  refine dr_some (l1Below l hl ci ch 3 hc (by omega)) (fun r hr => ?_)
  have h3 := hr.2.1 (by omega)
  have h0 := hr.1
  have e : wrap64 (1 + r.1) = ((1 + r.1).toNat : Int) := by rw [w64 (by omega) (by omega)]; omega
  rw [e]
  obtain ⟨o, ho, hn⟩ := groupNewD ((1 + r.1).toNat : Int) (by omega) (by omega)
  refine dr_eq hn ?_
  refine dr_mono (rightD_l0 l hl (1 + r.1).toNat (by omega) 6 0 rfl 0 r.2.1 r.2.2 (0, [], [], o) hr.2.2 ⟨by simp, by simp, by show o.length = _; omega⟩) (fun x hx => ⟨_, by omega, by omega, hx⟩)
theorem l5Draw (l : List Int) (hl : l.length ≤ 1048576) (ci ch : Int) (hc : okC ci) : Dr (fun k => spec_l5Draw.f k l ci ch) (fun x => ∃ q, q ≤ 3 ∧ okD 7 q x) := by
  refine dr_bind (l5DrawRight l hl ci ch hc) (fun x hx => ?_)
  obtain ⟨q, q0, q1, xm, xb, xo, xc⟩ := hx
  refine dr_some (l1Below l hl _ _ 12 xc (by omega)) (fun r hr => ?_)
  refine dr_ite (fun _ => ?_) (fun _ => dr_ite (fun _ => ?_) (fun _ => dr_ite (fun _ => ?_) (fun _ => dr_ite (fun _ => ?_) (fun _ => dr_ite (fun _ => ?_) (fun _ => ?_)))))
  · exact dr_some (l1PickInt l hl _ _ _ hr.2.2 (by simp) (by simp)) (fun p hp => dr_now ⟨q, q1, Nat.le_succ_of_le xm, Nat.le_succ_of_le xb, xo, hp.2⟩)
  · refine dr_some (l1Below l hl _ _ 5 hr.2.2 (by omega)) (fun p hp => dr_pos (by omega) (dr_now ⟨q, q1, ?_, Nat.le_succ_of_le xb, xo, hp.2.2⟩))
    simp only [List.length_append, List.length_cons, List.length_nil]
    omega
  · refine dr_some (l1PickInt l hl _ _ _ hr.2.2 (by simp) (by simp)) (fun p hp => dr_pos (by omega) (dr_now ⟨q, q1, Nat.le_succ_of_le xm, ?_, xo, hp.2⟩))
    simp only [List.length_append, List.length_cons, List.length_nil]
    omega
  · exact dr_some (l1Below l hl _ _ 5 hr.2.2 (by omega)) (fun p hp => dr_now ⟨q, q1, Nat.le_succ_of_le xm, Nat.le_succ_of_le xb, xo, hp.2.2⟩)
  · refine dr_some (l1PickInt l hl _ _ _ hr.2.2 (by simp) (by simp)) (fun p hp => dr_pos (by omega) (dr_now ⟨q, q1, Nat.le_succ_of_le xm, Nat.le_succ_of_le xb, ?_, hp.2⟩))
    rw [List.length_set]
    exact xo
  · exact dr_now ⟨q, q1, Nat.le_succ_of_le xm, Nat.le_succ_of_le xb, xo, hr.2.2⟩
theorem drawGroupMark (l : List Int) (hl : l.length ≤ 1048576) : Dr (fun k => spec_DrawGroupMark.f k l) (fun x => x.2.1.length ≤ 7 ∧ x.2.2.1.length ≤ 7 ∧ x.2.2.2.1.length ≤ 3) := by
  refine dr_bind (l1New l hl) (fun c hc => ?_)
  obtain ⟨c0, ci, ch⟩ := c
  obtain ⟨rfl, hc⟩ := hc
  refine dr_bind (l5Draw c0 hl ci ch hc) (fun x hx => ?_)
  obtain ⟨q, q1, xm, xb, xo, xc⟩ := hx
  refine dr_some (l1Below c0 hl _ _ 4 xc (by omega)) (fun r hr => ?_)
  obtain ⟨v, e1, _⟩ := owner x.1 x.2.1 x.2.2.1 x.2.2.2.1 (wrap64 (r.1 - 1))
  have j1 : ∀ (who gen row ci ch : Int), okC ci → Dr (fun k => spec_DrawGroupMark.j1 k row who gen c0 ci ch x.1 x.2.1 x.2.2.1 x.2.2.2.1) (fun x => x.2.1.length ≤ 7 ∧ x.2.2.1.length ≤ 7 ∧ x.2.2.2.1.length ≤ 3) := fun who gen row ci ch hc => by
    refine dr_step (fun _ => by rw [spec_DrawGroupMark.j1]) ?_
    exact dr_some (l1Below c0 hl _ _ 12 hc (by omega)) (fun p hp => dr_now ⟨xm, xb, by show x.2.2.2.1.length ≤ 3; omega⟩)
  have j0 : ∀ (who gen row ci ch : Int), okC ci → Dr (fun k => spec_DrawGroupMark.j0 k row who gen c0 ci ch x.1 x.2.1 x.2.2.1 x.2.2.2.1) (fun x => x.2.1.length ≤ 7 ∧ x.2.2.1.length ≤ 7 ∧ x.2.2.2.1.length ≤ 3) := fun who gen row ci ch hc => by
    refine dr_step (fun _ => by rw [spec_DrawGroupMark.j0]) ?_
    exact dr_some (l1Once c0 hl _ _ 5 hc (by omega)) (fun p hp => dr_ite (fun _ => dr_some (l1Below c0 hl _ _ 4 hp (by omega)) (fun s hs => j1 _ _ _ _ _ hs.2.2)) (fun _ => j1 _ _ _ _ _ hp))
  exact dr_eq e1 (dr_some (l1Once c0 hl _ _ 4 hr.2.2 (by omega)) (fun p hp => dr_ite (fun _ => dr_some (l1Below c0 hl _ _ 4 hp (by omega)) (fun s hs => j0 _ _ _ _ _ hs.2.2)) (fun _ => j0 _ _ _ _ _ hp)))
end Go.Proofs.Ytiknkolclcdajaa.L

/- FnMarks as a plain statement: proved for all drawn codes. -/
set_option linter.unusedVariables false
namespace Go.Proofs.Ytiknkolclcdajaa.Pure
open Go.RowKit Go.Proofs.YtiknkolclcdajaaW.PrintWords Go.Proofs.YtiknkolclcdajaaW.PrintLast Go.Proofs.YtiknkolclcdajaaW.PrintMore Go.Proofs.Ytiknkolclcdajaa.Q Go.Proofs.Ytiknkolclcdajaa.L

theorem sameInts_l0 (l : List Int) (hn : l.length ≤ 1048576) : ∀ (d i : Nat), i + d = l.length → Ev (fun k => laws_sameInts.l0 k l l (i : Int)) true := by
  intro d
  induction d with
  | zero => intro i h; exact ev_step (fun _ => rfl) (ev_neg (by omega) (ev_now rfl))
  | succ d ih =>
    intro i h
    have e : wrap64 ((i : Int) + 1) = ((i + 1 : Nat) : Int) := by rw [w64 (by omega) (by omega)]; omega
    refine ev_step (fun _ => rfl) (ev_pos (by omega) (ev_pos (by omega) (ev_pos (by omega) (ev_pos rfl ?_))))
    rw [e]
    exact ih (i + 1) (by omega)
theorem sameInts (l : List Int) (hn : l.length ≤ 1048576) : Ev (fun k => laws_sameInts.f k l l) true := ev_pos rfl (sameInts_l0 l hn l.length 0 (by omega))
theorem sameGroup (g : Int) (m b o : List Int) (hm : m.length ≤ 1048576) (hb : b.length ≤ 1048576) (ho : o.length ≤ 1048576) : Ev (fun k => laws_sameGroup.f k g m b o g m b o) true :=
  ev_pos rfl (ev_bind (sameInts m hm) (ev_pos rfl (ev_bind (sameInts b hb) (ev_pos rfl (ev_bind (sameInts o ho) (ev_now rfl))))))
theorem marks_l0 (g : Int) (m b o : List Int) (who gen row off : Int) (ho : o.length ≤ 1048576) (h0 : 0 ≤ row) (h1 : row < (o.length : Int)) (h2 : rd o row ≤ off) (h3 : gen = g) (h4 : impl_OwnerOf.f g m b o row = some who) : ∀ (d i : Nat), i + d = o.length →
    Ev (fun k => laws_FnMarks.l0 k who gen row off (i : Int) g m b o g m b (o.set row.toNat off)) true := by
  have hr : rd (o.set row.toNat off) row = off := by
    obtain ⟨j, rfl⟩ := Int.eq_ofNat_of_zero_le h0
    rw [show Int.toNat (j : Int) = j from rfl]
    rw [rd_eq _ j (by rw [List.length_set]; omega), List.getElem_set_self]
  intro d
  induction d with
  | zero =>
    intro i h
    refine ev_step (fun _ => by rw [laws_FnMarks.l0]) ?_
    refine ev_neg (by omega) (ev_pos h0 (ev_pos (by rw [List.length_set]; omega) (ev_pos hr (ev_some h4 (ev_pos rfl (ev_now ?_))))))
    simp [h3]
  | succ d ih =>
    intro i h
    have e : wrap64 ((i : Int) + 1) = ((i + 1 : Nat) : Int) := by rw [w64 (by omega) (by omega)]; omega
    refine ev_step (fun _ => by rw [laws_FnMarks.l0]) ?_
    refine ev_pos (by omega) (ev_pos (by omega) (ev_pos (by rw [List.length_set]; omega) ?_))
    rw [e]
    by_cases q : (i : Int) = row
    · refine ev_neg ?_ (ev_pos q (ih (i + 1) (by omega)))
      rw [q, hr]
      omega
    · have hs : rd (o.set row.toNat off) (i : Int) = rd o (i : Int) := by
        rw [rd_eq _ i (by rw [List.length_set]; omega), rd_eq o i (by omega), List.getElem_set_ne (by omega)]
      exact ev_neg (by rw [hs]; omega) (ev_neg q (ev_pos hs (ih (i + 1) (by omega))))
theorem FnMarks (l : List Int) (_ : l.length ≤ maxLen ∧ ∀ y ∈ l, (Lit.int .u8 y).wf = true) : ∃ k, laws_FnMarks.f k l = some true := by
  refine Ev.rounds (g := fun k => laws_FnMarks.f k l) ?_
  refine ev_some rfl (ev_ite (fun _ => ev_now rfl) (fun hb => ?_))
  have hl : l.length ≤ 1048576 := by
    have : ¬ ((l.length : Int) > 1048576) := by simpa using hb
    omega
  obtain ⟨⟨g, m, b, o, who, gen, row, off⟩, hx, xm, xb, xo⟩ := drawGroupMark l hl
  simp only at xm xb xo
  refine ev_bind hx ?_
  obtain ⟨o', ok, hlen, hno, hyes, e1, e2⟩ := groupMark g m b o who gen row off (by omega) (by omega) (by omega)
  refine ev_bind e2 (ev_bind e1 (ev_neg (by simp) (ev_bind (sameGroup g m b o' (by omega) (by omega) (by omega)) ?_)))
  refine ev_step (fun _ => by rw [laws_FnMarks.j0]) ?_
  refine ev_neg (by simp) ?_
  cases ok with
  | false =>
    obtain rfl := hno rfl
    exact ev_neg (by simp) (ev_bind (sameGroup g m b o' (by omega) (by omega) (by omega)) (ev_now rfl))
  | true =>
    obtain ⟨h0, h1, rfl, h2, h3, h4⟩ := hyes rfl
    exact ev_pos rfl (marks_l0 g m b o who gen row off (by omega) h0 h1 h2 h3 h4 o.length 0 (by omega))
end Go.Proofs.Ytiknkolclcdajaa.Pure

/- The law FnMarks: its statement holds, for all arguments. Made by a program of ours out of the plain theorem and the walk. No condition. -/
namespace Go.Proofs.Ytiknkolclcdajaa.fnMarks
open Go.ChangeShapes Go.WideShapes Go.ChangeAt Go.RowKit Go.Proofs.YtiknkolclcdajaaW.PrintWords Go.Proofs.Ytiknkolclcdajaa.Q Go.Proofs.Ytiknkolclcdajaa.R
open Go.ChangeMaps (open_string shut_string)
set_option linter.unusedVariables false
theorem own : ownKnob Try.prog.godebug = none := by kernel_rfl
theorem laidOut : laidOutB Try.prog = true := by kernel_rfl
set_option maxRecDepth 100000 in
theorem lifted (os : Os) (started : os.Started) (H : Type) (enc : TypeId × Value → H) :
    ReturnsInHanded {} Try.checked os 3 .any (Rows.fnMarksSpec.pre6 enc Try.prog Try.f3 Rows.fnMarksRow.domain false) (Rows.fnMarksSpec.post enc Try.prog Try.f3 false true false false) := by
  refine returnsInHanded_of_change_sized (C := Try.checked) own started (by kernel_rfl) Try.func3
    (ChangeSpec.witness6 (enc := enc) (C := Try.checked) false ⟨#[], #[.slice none 0 0], []⟩ 8 (by kernel_rfl) (by kernel_rfl) (by kernel_rfl) (by kernel_rfl)) ?_
  intro W base args ds gs before hval0 hW hcnd hsz0 _
  have hval : ∀ (j : Nat) t v, Try.f3.params[j]? = some t → args[j]? = some v → Value.okWide Try.prog W .any base t v := hval0
  have hW' := hW
  obtain ⟨p, q, hA0, hV, rfl, hfz, hnd⟩ := hW
  have hA : DataW.TrodAll enc Try.prog W 0 (fun _ => true) true Try.f3.params.toList args.toList ds p := hA0
  rw [Try.params3] at hA hval
  obtain ⟨v0, vs0, d0, ds0, p0, q0, hargs, rfl, rfl, h0, r0⟩ := trodAll_cons hA
  obtain ⟨rfl, rfl, rfl⟩ := trodAll_nil r0
  obtain rfl : args = #[v0] := by cases args; simp_all
  obtain ⟨rfl, rfl⟩ := trodVars_none hV
  have k0 := h0
  have lt0 : ∀ x ∈ p0, x.block < W.heap.size := by obtain ⟨m, hm⟩ := k0; exact DataW.trod_lt m _ _ _ hm
  obtain ⟨A0, len0, c0, rfl⟩ := okWide_slice Try.underlying22 (hval 0 22 v0 rfl rfl)
  obtain ⟨fuel0, hf0⟩ := h0
  obtain ⟨l0, ⟨A0', c0', hz0, hc0, hr0⟩, w0⟩ := (rd_slice Try.underlying22 (by kernel_rfl) (rd_int Try.underlying5)) H enc W 0 (fun _ => true) true fuel0 _ _ hf0
  obtain ⟨rfl, rfl, rfl⟩ : A0 = A0' ∧ len0 = l0.length ∧ c0 = c0' := by simpa [Value.cells] using hz0
  clear hA0 hval0 hsz0
  obtain ⟨k, hk⟩ := Pure.FnMarks l0 w0
  refine (laws_FnMarks.calls (w := W) (hr0 := hr0) (hc0 := hc0) (h := hk)).mono fun e W' he => ?_
  obtain ⟨rfl, bel0⟩ := he
  have bel : Below W.heap.size W W' := by first | exact bel0 | exact Drawn0.below bel0
  exact ⟨_, rfl, _, _, _, [], _, [], hW', trodAll_mk1 (shut_bool Try.underlying4 _), (trodAll_cons_mk (Below.trod laidOut (by kernel_rfl) (of_decide_eq_true (by kernel_rfl)) k0 bel lt0) trodAll_mk0), rfl, bel.frame _, fun h => by cases h⟩
theorem over : Rows.fnMarksRow.holds Try.pinned (OpenSpec.ofChange Rows.fnMarksSpec) :=
  OpenClaim.holds_of_wide 3 Try.f3 rfl rfl rfl rfl rfl rfl rfl ⟨rfl, rfl, rfl, rfl, rfl⟩ rfl rfl rfl rfl rfl (by kernel_rfl) Try.func3 (by kernel_rfl)
    (of_decide_eq_true (by kernel_rfl)) (by unfold Func.isWrapper; first | (rw [if_pos (by decide +kernel)]; kernel_rfl) | (rw [if_neg (by decide +kernel)]; exact ⟨rfl, rfl⟩))
    (fun os started H enc _ => lifted os started H enc)
end Go.Proofs.Ytiknkolclcdajaa.fnMarks
namespace Go.Proofs.Ytiknkolclcdajaa
/-- The row, under a short name, for the claim. -/
theorem fnMarks_holds : Rows.FnMarksSaid := fnMarks.over
#print axioms fnMarks_holds
end Go.Proofs.Ytiknkolclcdajaa

