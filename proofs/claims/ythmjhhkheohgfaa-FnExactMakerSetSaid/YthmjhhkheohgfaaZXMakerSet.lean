/- The law FnExactMakerSet holds, for all arguments: its row, and behind it the plain side of what the program and the reference compute. Conditions: those that each theorem states; the row has none. -/
import Derived.Test.YthmjhhkheohgfaaRows
import Derived.Deep.Slices
import Derived.ChangeArms
import Derived.WideShapes
import Derived.WalkKit
import Derived.ProofKit
import Derived.OpenShut
import Derived.ShutString
import Derived.ChangeOld
import Derived.Below
import Derived.SizedLaws
import Derived.Test.YthmjhhkheohgfaaZXMakerSet0
import Derived.Test.YthmjhhkheohgfaaZXMakerSeta
import Derived.Test.YthmjhhkheohgfaaZXMakerSetb
import Derived.Test.YthmjhhkheohgfaaZXMakerSetc
/- What is read as data is of a printed kind: whole numbers, texts, structs of one-cell fields, slices. For the laws' rows. No condition. -/
namespace Go.Proofs.Ythmjhhkheohgfaa.R
open Go.RowKit Go.Proofs.YthmjhhkheohgfaaW.PrintWords Go.WideShapes

/-- Whatever is read as data of type t has cells that are of kind d. -/
def Rd {α : Type} (P : Program) (t : TypeId) (d : Kd α) (wf : α → Prop) : Prop :=
  ∀ (H : Type) (enc : TypeId × Value → H) (W : World) (base : Nat) (spare : Nat → Bool) (held : Bool) (fuel : Nat) (cs : List Value) (x : DataW H × List MemPlace),
    DataW.trod enc P W base spare held fuel t cs = some x → ∃ a, d.K W a cs ∧ wf a
theorem rd_int {P : Program} {t : TypeId} {k : IntKind} (ht : P.underlying t = some (.int k)) : Rd P t (Kd.int k) (fun n => (Lit.int k n).wf = true) := by
  intro H enc W base spare held fuel cs x h
  obtain ⟨n, rfl, _, hw⟩ := DataW.trod_int ht h
  exact ⟨n, rfl, hw⟩
theorem rd_string {P : Program} {t : TypeId} (ht : P.underlying t = some .string) : Rd P t Kd.string (fun s => s.size ≤ maxLen) := by
  intro H enc W base spare held fuel cs x h
  obtain ⟨s, rfl, _, hw⟩ := DataW.trod_string ht h
  exact ⟨s, rfl, hw⟩
theorem rd_slice {α : Type} {P : Program} {t e : TypeId} {d : Kd α} {wf : α → Prop} (ht : P.underlying t = some (.slice e)) (hs : P.cellsOf e = d.sz) (hr : Rd P e d wf) :
    Rd P t (Kd.slice e d) (fun xs => xs.length ≤ maxLen ∧ ∀ x ∈ xs, wf x) := by
  intro H enc W base spare held fuel cs x h
  rcases Go.Deep.open_slice ht h with ⟨rfl, _⟩ | ⟨a, len, cap, m, n, D, Pl, rfl, hb, hl, hm, hmm, _, hx⟩
  · exact ⟨[], ⟨none, 0, rfl, Nat.le_refl _, rfl, by simp, fun h0 => absurd h0 (by simp)⟩, by simp, by simp⟩
  · have hml : len ≤ m := by rw [hmm]; split <;> omega
    have key : ∀ i, i < len → ∃ p : α, wf p ∧ ∃ c, c.length = d.sz ∧ d.K W p c ∧ ∀ q u, c[q]? = some u → W.cell? (a.add (i * d.sz + q)) = some u := by
      intro i hi
      obtain ⟨cs', h1, h2⟩ := hx i (by omega)
      obtain ⟨p, hp, hw⟩ := hr H enc W base spare held n cs' _ h2
      obtain ⟨_, hlen, hc⟩ := World.cells?_some h1
      rw [hs] at hlen hc
      refine ⟨p, hw, cs', hlen, hp, fun q u hq => ?_⟩
      have hq' : q < d.sz := by
        have := (List.getElem?_eq_some_iff.1 hq).1
        omega
      rw [← hq, ← hc q hq', Go.Deep.add_add]
    have key2 : ∃ f : Nat → Option α, ∀ i, i < len → ∃ p, f i = some p ∧ wf p ∧ ∃ c, c.length = d.sz ∧ d.K W p c ∧ ∀ q u, c[q]? = some u → W.cell? (a.add (i * d.sz + q)) = some u := by
      classical
      refine ⟨fun i => if hi : i < len then some (Classical.choose (key i hi)) else none, fun i hi => ⟨Classical.choose (key i hi), by simp [hi], Classical.choose_spec (key i hi)⟩⟩
    obtain ⟨f, hf⟩ := key2
    have hlen : ∀ k, k ≤ len → ((List.range k).filterMap f).length = k ∧ ∀ j, j < k → ((List.range k).filterMap f)[j]? = f j := by
      intro k
      induction k with
      | zero => intro _; exact ⟨rfl, fun j hj => absurd hj (by omega)⟩
      | succ k ih =>
        intro hk
        obtain ⟨i1, i2⟩ := ih (by omega)
        obtain ⟨p, hp, _⟩ := hf k (by omega)
        have e : (List.range (k + 1)).filterMap f = (List.range k).filterMap f ++ [p] := by rw [List.range_succ, List.filterMap_append]; simp [hp]
        refine ⟨by rw [e]; simp [i1], fun j hj => ?_⟩
        rw [e]
        rcases Nat.lt_or_ge j k with h1 | h1
        · rw [List.getElem?_append_left (by omega)]; exact i2 j h1
        · obtain rfl : j = k := by omega
          rw [List.getElem?_append_right (by omega), i1]; simp [hp]
    obtain ⟨i1, i2⟩ := hlen len (Nat.le_refl _)
    refine ⟨(List.range len).filterMap f, ⟨some a, cap, by rw [i1], by rw [i1]; exact hl, rfl, by rw [i1]; simp only [maxLen] at hm; omega, fun _ => ⟨a, rfl, fun j p hj => ?_⟩⟩, by rw [i1]; omega, fun p hp => ?_⟩
    · have hj' : j < len := by
        have := (List.getElem?_eq_some_iff.1 hj).1
        omega
      obtain ⟨p', hp', _, hc⟩ := hf j hj'
      rw [i2 j hj', hp'] at hj
      cases hj
      exact hc
    · obtain ⟨i, hi, hfi⟩ := List.mem_filterMap.1 hp
      obtain ⟨p', hp', hw, _⟩ := hf i (by simpa using hi)
      rw [hp'] at hfi
      cases hfi
      exact hw
/-- The fields of a struct, each of one cell, cell by cell. -/
theorem rd_fields {H : Type} {enc : TypeId × Value → H} {P : Program} {W : World} {base : Nat} {spare : Nat → Bool} {held : Bool} {fuel : Nat} {t : TypeId} {fs : Array Field} {cs : List Value} {x : DataW H × List MemPlace}
    (ht : P.underlying t = some (.struct fs)) (h : DataW.trod enc P W base spare held fuel t cs = some x) : cs.length = P.cellsOf t ∧ ∃ n, ∀ (i : Nat) (f : Field), fs[i]? = some f → ∃ y, DataW.trod enc P W base spare held n f.type ((cs.drop f.offset).take (P.cellsOf f.type)) = some y := by
  obtain ⟨xs, n, _, _, hl, hlen, hf⟩ := DataW.trod_struct ht h
  refine ⟨hl, n, fun i f hi => ?_⟩
  have hi' : i < xs.length := by
    rw [hlen]
    exact (Array.getElem?_eq_some_iff.1 hi).1
  exact ⟨xs[i], by rw [hf i f hi, List.getElem?_eq_getElem hi']⟩
end Go.Proofs.Ythmjhhkheohgfaa.R

/- How the laws' arguments of this seat are opened: what is read as data has the cells that the walks want. No condition. -/
namespace Go.Proofs.Ythmjhhkheohgfaa.R
open Go.RowKit Go.Proofs.YthmjhhkheohgfaaW.PrintWords Go.WideShapes Go.Proofs.Ythmjhhkheohgfaa.Q
set_option linter.unusedVariables false
theorem cells_2 {cs : List Value} (h : cs.length = 2) : ∃ z0 z1, cs = [z0, z1] := by
  match cs, h with
  | [y0, y1], _ => exact ⟨y0, y1, rfl⟩
theorem cells_3 {cs : List Value} (h : cs.length = 3) : ∃ z0 z1 z2, cs = [z0, z1, z2] := by
  match cs, h with
  | [y0, y1, y2], _ => exact ⟨y0, y1, y2, rfl⟩
theorem cells_5 {cs : List Value} (h : cs.length = 5) : ∃ z0 z1 z2 z3 z4, cs = [z0, z1, z2, z3, z4] := by
  match cs, h with
  | [y0, y1, y2, y3, y4], _ => exact ⟨y0, y1, y2, y3, y4, rfl⟩
def WF_LMark (x : S_LMark) : Prop := ((Lit.int .i64 x.f0).wf = true) ∧ ((Lit.int .i64 x.f1).wf = true)
theorem rd_LMark : Rd Try.prog 134 k_LMark WF_LMark := by
  intro H enc W base spare held fuel cs x h
  obtain ⟨hl, n, hf⟩ := rd_fields Try.underlying134 h
  have hl' : cs.length = 2 := hl.trans (by kernel_rfl)
  obtain ⟨z0, z1, rfl⟩ := cells_2 hl'
  have cc3 : Try.prog.cellsOf 3 = 1 := by kernel_rfl
  obtain ⟨e0, he0⟩ := hf 0 _ rfl
  have hc0 : DataW.trod enc Try.prog W base spare held n 3 [z0] = some e0 := by simpa [cc3] using he0
  obtain ⟨b0, hk0, w0⟩ := (rd_int Try.underlying3) H enc W base spare held n [z0] _ hc0
  obtain rfl : z0 = .int .i64 b0 := by injection hk0
  obtain ⟨e1, he1⟩ := hf 1 _ rfl
  have hc1 : DataW.trod enc Try.prog W base spare held n 3 [z1] = some e1 := by simpa [cc3] using he1
  obtain ⟨b1, hk1, w1⟩ := (rd_int Try.underlying3) H enc W base spare held n [z1] _ hc1
  obtain rfl : z1 = .int .i64 b1 := by injection hk1
  exact ⟨⟨b0, b1⟩, k_LMark_mk W ⟨b0, b1⟩ , ⟨w0, w1⟩⟩
def WF_LMaker (x : S_LMaker) : Prop := ((Lit.int .i64 x.f0).wf = true) ∧ ((Lit.int .i64 x.f1).wf = true) ∧ ((Lit.int .i64 x.f2).wf = true) ∧ ((Lit.int .i64 x.f3).wf = true) ∧ (x.f4.length ≤ maxLen ∧ ∀ y ∈ x.f4, WF_LMark y)
theorem rd_LMaker : Rd Try.prog 49 k_LMaker WF_LMaker := by
  intro H enc W base spare held fuel cs x h
  obtain ⟨hl, n, hf⟩ := rd_fields Try.underlying49 h
  have hl' : cs.length = 5 := hl.trans (by kernel_rfl)
  obtain ⟨z0, z1, z2, z3, z4, rfl⟩ := cells_5 hl'
  have cc3 : Try.prog.cellsOf 3 = 1 := by kernel_rfl
  have cc47 : Try.prog.cellsOf 47 = 1 := by kernel_rfl
  obtain ⟨e0, he0⟩ := hf 0 _ rfl
  have hc0 : DataW.trod enc Try.prog W base spare held n 3 [z0] = some e0 := by simpa [cc3] using he0
  obtain ⟨b0, hk0, w0⟩ := (rd_int Try.underlying3) H enc W base spare held n [z0] _ hc0
  obtain rfl : z0 = .int .i64 b0 := by injection hk0
  obtain ⟨e1, he1⟩ := hf 1 _ rfl
  have hc1 : DataW.trod enc Try.prog W base spare held n 3 [z1] = some e1 := by simpa [cc3] using he1
  obtain ⟨b1, hk1, w1⟩ := (rd_int Try.underlying3) H enc W base spare held n [z1] _ hc1
  obtain rfl : z1 = .int .i64 b1 := by injection hk1
  obtain ⟨e2, he2⟩ := hf 2 _ rfl
  have hc2 : DataW.trod enc Try.prog W base spare held n 3 [z2] = some e2 := by simpa [cc3] using he2
  obtain ⟨b2, hk2, w2⟩ := (rd_int Try.underlying3) H enc W base spare held n [z2] _ hc2
  obtain rfl : z2 = .int .i64 b2 := by injection hk2
  obtain ⟨e3, he3⟩ := hf 3 _ rfl
  have hc3 : DataW.trod enc Try.prog W base spare held n 3 [z3] = some e3 := by simpa [cc3] using he3
  obtain ⟨b3, hk3, w3⟩ := (rd_int Try.underlying3) H enc W base spare held n [z3] _ hc3
  obtain rfl : z3 = .int .i64 b3 := by injection hk3
  obtain ⟨e4, he4⟩ := hf 4 _ rfl
  have hc4 : DataW.trod enc Try.prog W base spare held n 47 [z4] = some e4 := by simpa [cc47] using he4
  obtain ⟨b4, hk4, w4⟩ := (rd_slice Try.underlying47 (by kernel_rfl) rd_LMark) H enc W base spare held n [z4] _ hc4
  obtain ⟨A4, c4, hz4, l4, g4⟩ := hk4
  obtain rfl : z4 = .slice A4 b4.length c4 := by injection hz4
  exact ⟨⟨b0, b1, b2, b3, b4⟩, k_LMaker_mk W ⟨b0, b1, b2, b3, b4⟩ l4 g4, ⟨w0, w1, w2, w3, w4⟩⟩
theorem open_LMaker {H : Type} {enc : TypeId × Value → H} {W : World} {base : Nat} {spare : Nat → Bool} {held : Bool} {fuel : Nat} {cs : List Value} {x : DataW H × List MemPlace} (h : DataW.trod enc Try.prog W base spare held fuel 49 cs = some x) :
    ∃ (b0 : Int) (b1 : Int) (b2 : Int) (b3 : Int) (b4 : List S_LMark) (A4 : Option Addr) (c4 : Nat), cs = [.int .i64 b0, .int .i64 b1, .int .i64 b2, .int .i64 b3, .slice A4 b4.length c4] ∧ ((Lit.int .i64 b0).wf = true) ∧ ((Lit.int .i64 b1).wf = true) ∧ ((Lit.int .i64 b2).wf = true) ∧ ((Lit.int .i64 b3).wf = true) ∧ (b4.length ≤ maxLen ∧ ∀ y ∈ b4, WF_LMark y) ∧ b4.length ≤ c4 ∧ Kd.C k_LMark W A4 b4.length b4 := by
  obtain ⟨hl, n, hf⟩ := rd_fields Try.underlying49 h
  have hl' : cs.length = 5 := hl.trans (by kernel_rfl)
  obtain ⟨z0, z1, z2, z3, z4, rfl⟩ := cells_5 hl'
  have cc3 : Try.prog.cellsOf 3 = 1 := by kernel_rfl
  have cc47 : Try.prog.cellsOf 47 = 1 := by kernel_rfl
  obtain ⟨e0, he0⟩ := hf 0 _ rfl
  have hc0 : DataW.trod enc Try.prog W base spare held n 3 [z0] = some e0 := by simpa [cc3] using he0
  obtain ⟨b0, hk0, w0⟩ := (rd_int Try.underlying3) H enc W base spare held n [z0] _ hc0
  obtain rfl : z0 = .int .i64 b0 := by injection hk0
  obtain ⟨e1, he1⟩ := hf 1 _ rfl
  have hc1 : DataW.trod enc Try.prog W base spare held n 3 [z1] = some e1 := by simpa [cc3] using he1
  obtain ⟨b1, hk1, w1⟩ := (rd_int Try.underlying3) H enc W base spare held n [z1] _ hc1
  obtain rfl : z1 = .int .i64 b1 := by injection hk1
  obtain ⟨e2, he2⟩ := hf 2 _ rfl
  have hc2 : DataW.trod enc Try.prog W base spare held n 3 [z2] = some e2 := by simpa [cc3] using he2
  obtain ⟨b2, hk2, w2⟩ := (rd_int Try.underlying3) H enc W base spare held n [z2] _ hc2
  obtain rfl : z2 = .int .i64 b2 := by injection hk2
  obtain ⟨e3, he3⟩ := hf 3 _ rfl
  have hc3 : DataW.trod enc Try.prog W base spare held n 3 [z3] = some e3 := by simpa [cc3] using he3
  obtain ⟨b3, hk3, w3⟩ := (rd_int Try.underlying3) H enc W base spare held n [z3] _ hc3
  obtain rfl : z3 = .int .i64 b3 := by injection hk3
  obtain ⟨e4, he4⟩ := hf 4 _ rfl
  have hc4 : DataW.trod enc Try.prog W base spare held n 47 [z4] = some e4 := by simpa [cc47] using he4
  obtain ⟨b4, hk4, w4⟩ := (rd_slice Try.underlying47 (by kernel_rfl) rd_LMark) H enc W base spare held n [z4] _ hc4
  obtain ⟨A4, c4, hz4, l4, g4⟩ := hk4
  obtain rfl : z4 = .slice A4 b4.length c4 := by injection hz4
  exact ⟨b0, b1, b2, b3, b4, A4, c4, rfl, w0, w1, w2, w3, w4, l4, g4⟩
def WF_LItem (x : S_LItem) : Prop := ((Lit.int .i64 x.f0).wf = true) ∧ (x.f1.size ≤ maxLen) ∧ (x.f2.size ≤ maxLen) ∧ ((Lit.int .i64 x.f3).wf = true) ∧ ((Lit.int .i64 x.f4).wf = true)
theorem rd_LItem : Rd Try.prog 136 k_LItem WF_LItem := by
  intro H enc W base spare held fuel cs x h
  obtain ⟨hl, n, hf⟩ := rd_fields Try.underlying136 h
  have hl' : cs.length = 5 := hl.trans (by kernel_rfl)
  obtain ⟨z0, z1, z2, z3, z4, rfl⟩ := cells_5 hl'
  have cc3 : Try.prog.cellsOf 3 = 1 := by kernel_rfl
  have cc9 : Try.prog.cellsOf 9 = 1 := by kernel_rfl
  obtain ⟨e0, he0⟩ := hf 0 _ rfl
  have hc0 : DataW.trod enc Try.prog W base spare held n 3 [z0] = some e0 := by simpa [cc3] using he0
  obtain ⟨b0, hk0, w0⟩ := (rd_int Try.underlying3) H enc W base spare held n [z0] _ hc0
  obtain rfl : z0 = .int .i64 b0 := by injection hk0
  obtain ⟨e1, he1⟩ := hf 1 _ rfl
  have hc1 : DataW.trod enc Try.prog W base spare held n 9 [z1] = some e1 := by simpa [cc9] using he1
  obtain ⟨b1, hk1, w1⟩ := (rd_string Try.underlying9) H enc W base spare held n [z1] _ hc1
  obtain rfl : z1 = .string b1 := by injection hk1
  obtain ⟨e2, he2⟩ := hf 2 _ rfl
  have hc2 : DataW.trod enc Try.prog W base spare held n 9 [z2] = some e2 := by simpa [cc9] using he2
  obtain ⟨b2, hk2, w2⟩ := (rd_string Try.underlying9) H enc W base spare held n [z2] _ hc2
  obtain rfl : z2 = .string b2 := by injection hk2
  obtain ⟨e3, he3⟩ := hf 3 _ rfl
  have hc3 : DataW.trod enc Try.prog W base spare held n 3 [z3] = some e3 := by simpa [cc3] using he3
  obtain ⟨b3, hk3, w3⟩ := (rd_int Try.underlying3) H enc W base spare held n [z3] _ hc3
  obtain rfl : z3 = .int .i64 b3 := by injection hk3
  obtain ⟨e4, he4⟩ := hf 4 _ rfl
  have hc4 : DataW.trod enc Try.prog W base spare held n 3 [z4] = some e4 := by simpa [cc3] using he4
  obtain ⟨b4, hk4, w4⟩ := (rd_int Try.underlying3) H enc W base spare held n [z4] _ hc4
  obtain rfl : z4 = .int .i64 b4 := by injection hk4
  exact ⟨⟨b0, b1, b2, b3, b4⟩, k_LItem_mk W ⟨b0, b1, b2, b3, b4⟩ , ⟨w0, w1, w2, w3, w4⟩⟩
theorem open_LRow {H : Type} {enc : TypeId × Value → H} {W : World} {base : Nat} {spare : Nat → Bool} {held : Bool} {fuel : Nat} {cs : List Value} {x : DataW H × List MemPlace} (h : DataW.trod enc Try.prog W base spare held fuel 56 cs = some x) :
    ∃ (b0 : Int) (b1 : Int) (b2 : List S_LItem) (A2 : Option Addr) (c2 : Nat), cs = [.int .i64 b0, .int .i64 b1, .slice A2 b2.length c2] ∧ ((Lit.int .i64 b0).wf = true) ∧ ((Lit.int .i64 b1).wf = true) ∧ (b2.length ≤ maxLen ∧ ∀ y ∈ b2, WF_LItem y) ∧ b2.length ≤ c2 ∧ Kd.C k_LItem W A2 b2.length b2 := by
  obtain ⟨hl, n, hf⟩ := rd_fields Try.underlying56 h
  have hl' : cs.length = 3 := hl.trans (by kernel_rfl)
  obtain ⟨z0, z1, z2, rfl⟩ := cells_3 hl'
  have cc3 : Try.prog.cellsOf 3 = 1 := by kernel_rfl
  have cc54 : Try.prog.cellsOf 54 = 1 := by kernel_rfl
  obtain ⟨e0, he0⟩ := hf 0 _ rfl
  have hc0 : DataW.trod enc Try.prog W base spare held n 3 [z0] = some e0 := by simpa [cc3] using he0
  obtain ⟨b0, hk0, w0⟩ := (rd_int Try.underlying3) H enc W base spare held n [z0] _ hc0
  obtain rfl : z0 = .int .i64 b0 := by injection hk0
  obtain ⟨e1, he1⟩ := hf 1 _ rfl
  have hc1 : DataW.trod enc Try.prog W base spare held n 3 [z1] = some e1 := by simpa [cc3] using he1
  obtain ⟨b1, hk1, w1⟩ := (rd_int Try.underlying3) H enc W base spare held n [z1] _ hc1
  obtain rfl : z1 = .int .i64 b1 := by injection hk1
  obtain ⟨e2, he2⟩ := hf 2 _ rfl
  have hc2 : DataW.trod enc Try.prog W base spare held n 54 [z2] = some e2 := by simpa [cc54] using he2
  obtain ⟨b2, hk2, w2⟩ := (rd_slice Try.underlying54 (by kernel_rfl) rd_LItem) H enc W base spare held n [z2] _ hc2
  obtain ⟨A2, c2, hz2, l2, g2⟩ := hk2
  obtain rfl : z2 = .slice A2 b2.length c2 := by injection hz2
  exact ⟨b0, b1, b2, A2, c2, rfl, w0, w1, w2, l2, g2⟩
end Go.Proofs.Ythmjhhkheohgfaa.R

/- Small words for plain proofs: what comes to its answer at enough rounds, one step at a time; whole numbers of 64 bits. No condition. -/
namespace Go.Proofs.Ythmjhhkheohgfaa.L
open Go.RowKit Go.Proofs.YthmjhhkheohgfaaW.PrintWords Go.Proofs.YthmjhhkheohgfaaW.PrintLast Go.Proofs.YthmjhhkheohgfaaW.PrintMore

theorem ev_pos {α : Type} {c : Prop} [Decidable c] {f g : Nat → Option α} {r : α} (h : c) (k : Ev f r) : Ev (fun n => if c then f n else g n) r := by
  simpa only [if_pos h] using k
theorem ev_neg {α : Type} {c : Prop} [Decidable c] {f g : Nat → Option α} {r : α} (h : ¬ c) (k : Ev g r) : Ev (fun n => if c then f n else g n) r := by
  simpa only [if_neg h] using k
theorem ev_ite {α : Type} {c : Prop} [Decidable c] {f g : Nat → Option α} {r : α} (h : c → Ev f r) (k : ¬ c → Ev g r) : Ev (fun n => if c then f n else g n) r := by
  by_cases hc : c
  · exact ev_pos hc (h hc)
  · exact ev_neg hc (k hc)
theorem ev_some {α β : Type} {g : Option α} {f : Nat → α → Option β} {a : α} {r : β} (h : g = some a) (k : Ev (fun n => f n a) r) : Ev (fun n => g.bind (f n)) r := by
  subst h
  exact k
theorem ev_bind {α β : Type} {g : Nat → Option α} {f : Nat → α → Option β} {a : α} {r : β} (h : Ev g a) (k : Ev (fun n => f n a) r) : Ev (fun n => (g n).bind (f n)) r := Ev.bind h k
/-- one round more -/
theorem ev_step {α : Type} {g f : Nat → Option α} {r : α} (h : ∀ k, g (k + 1) = f k) (k : Ev f r) : Ev g r := Ev.step h k
theorem ev_eq {α : Type} {g : Nat → Option α} {r r' : α} (h : r = r') (k : Ev g r) : Ev g r' := h ▸ k
theorem ev_now {α : Type} {r r' : α} (h : r = r') : Ev (fun _ => some r) r' := h ▸ Ev.now r

theorem w64 {x : Int} (h0 : -9223372036854775808 ≤ x) (h1 : x ≤ 9223372036854775807) : wrap64 x = x := by
  unfold wrap64
  omega
end Go.Proofs.Ythmjhhkheohgfaa.L

/- The plain side of the laws' own words on marks and makers, and of MakerAsk: program and reference come to one answer. Condition: lists of at most 2^20 elements behind the size's test. -/
namespace Go.Proofs.Ythmjhhkheohgfaa.L
open Go.RowKit Go.Proofs.YthmjhhkheohgfaaW.PrintWords Go.Proofs.YthmjhhkheohgfaaW.PrintLast Go.Proofs.YthmjhhkheohgfaaW.PrintMore Go.Proofs.Ythmjhhkheohgfaa.Q

/-- a mark of the laws as one of the program -/
def mark (x : S_LMark) : S_Mark := ⟨x.f0, x.f1⟩
def marks (l : List S_LMark) : List S_Mark := l.map mark
theorem marks_len (l : List S_LMark) : (marks l).length = l.length := by simp [marks]
theorem rdLM (l : List S_LMark) (i : Nat) (h : i < l.length) : rd_LMark l (i : Int) = l[i] := by
  simp [rd_LMark, List.getD_eq_getElem?_getD, h]
theorem rdM (l : List S_Mark) (i : Nat) (h : i < l.length) : rd_Mark l (i : Int) = l[i] := by
  simp [rd_Mark, List.getD_eq_getElem?_getD, h]
theorem toMarkS_l0 (l : List S_LMark) (hn : l.length ≤ 1048576) : ∀ (d i : Nat) (acc : List S_Mark), i + d = l.length → acc.length = l.length → Ev (fun k => laws_toMarkS.l0 k l acc (i : Int)) (acc.take i ++ (marks l).drop i) := by
  intro d
  induction d with
  | zero =>
    intro i acc h1 h2
    refine ev_step (fun _ => rfl) (ev_neg (by omega) (ev_now ?_))
    simp [List.take_of_length_le (show acc.length ≤ i by omega), List.drop_eq_nil_of_le (show (marks l).length ≤ i by rw [marks_len]; omega)]
  | succ d ih =>
    intro i acc h1 h2
    refine ev_step (fun _ => rfl) (ev_pos (by omega) (ev_pos (by omega) (ev_some rfl (ev_pos (by omega) ?_))))
    have e : wrap64 ((i : Int) + 1) = ((i + 1 : Nat) : Int) := by rw [w64 (by omega) (by omega)]; omega
    rw [e, Int.toNat_natCast, rdLM l i (by omega)]
    refine ev_eq ?_ (ih (i + 1) (acc.set i (mark l[i])) (by omega) (by simp; omega))
    rw [List.take_succ_eq_append_getElem (by simp; omega), List.take_set_of_le (Nat.le_refl i), List.getElem_set_self, List.drop_eq_getElem_cons (show i < (marks l).length by rw [marks_len]; omega)]
    simp [marks]
theorem toMarkS (l : List S_LMark) (hn : l.length ≤ 1048576) : Ev (fun k => laws_toMarkS.f k l) (marks l) := by
  refine ev_pos (by omega) (ev_pos (by omega) ?_)
  have := toMarkS_l0 l hn l.length 0 (List.replicate ((l.length : Int)).toNat z_Mark) (by omega) (by simp)
  simpa using this
theorem toMaker (a b c d : Int) (l : List S_LMark) (hn : l.length ≤ 1048576) : Ev (fun k => laws_toMaker.f k a b c d l) (a, b, c, d, marks l) := ev_bind (toMarkS l hn) (ev_now rfl)
theorem eqMark (x : S_Mark) : laws_eqMark.f x.f0 x.f1 x.f0 x.f1 = some true := by simp [laws_eqMark.f]
theorem eqMarkS_l0 (l : List S_Mark) (hn : l.length ≤ 2097152) : ∀ (d i : Nat), i + d = l.length → Ev (fun k => laws_eqMarkS.l0 k l l (i : Int)) true := by
  intro d
  induction d with
  | zero => intro i h; exact ev_step (fun _ => rfl) (ev_neg (by omega) (ev_now rfl))
  | succ d ih =>
    intro i h
    refine ev_step (fun _ => rfl) (ev_pos (by omega) (ev_pos (by omega) (ev_pos (by omega) (ev_some (eqMark _) (ev_pos rfl ?_)))))
    have e : wrap64 ((i : Int) + 1) = ((i + 1 : Nat) : Int) := by rw [w64 (by omega) (by omega)]; omega
    rw [e]
    exact ih (i + 1) (by omega)
theorem eqMarkS (l : List S_Mark) (hn : l.length ≤ 2097152) : Ev (fun k => laws_eqMarkS.f k l l) true := ev_pos rfl (eqMarkS_l0 l hn l.length 0 (by omega))
theorem eqMaker (a b c d : Int) (l : List S_Mark) (hn : l.length ≤ 2097152) : Ev (fun k => laws_eqMaker.f k a b c d l a b c d l) true := ev_pos rfl (ev_pos rfl (ev_pos rfl (ev_pos rfl (ev_bind (eqMarkS l hn) (ev_pos rfl (ev_now rfl))))))
end Go.Proofs.Ythmjhhkheohgfaa.L

/- The plain side of MakerPut and of the laws' marks on makers: program and reference come to one answer. Condition: lists of at most 2^20 elements. -/
namespace Go.Proofs.Ythmjhhkheohgfaa.L
open Go.RowKit Go.Proofs.YthmjhhkheohgfaaW.PrintWords Go.Proofs.YthmjhhkheohgfaaW.PrintLast Go.Proofs.YthmjhhkheohgfaaW.PrintMore Go.Proofs.Ythmjhhkheohgfaa.Q

theorem specCopyMaker (a b c d : Int) (l : List S_Mark) (hn : l.length ≤ 2097152) : spec_l4Copy.f a b c d l = some (a, b, c, d, l) := by
  unfold spec_l4Copy.f
  simp only [Option.bind_some, List.length_nil, List.nil_append]
  rw [if_pos (by omega)]
theorem implCopyMaker (a b c d : Int) (l : List S_Mark) (hn : l.length ≤ 2097152) : impl_copyMaker.f a b c d l = some (a, b, c, d, l) := by
  unfold impl_copyMaker.f
  simp only [List.length_nil, List.nil_append]
  rw [if_pos (by omega)]
/-- marks with numbers from q on -/
def mMark (q : Nat) : S_Mark := ⟨(q : Int), ((q + 1 : Nat) : Int)⟩
def mMarks (q n : Nat) : List S_Mark := (List.range n).map fun i => mMark (q + 2 * i)
theorem mMarks_len (q n : Nat) : (mMarks q n).length = n := by simp [mMarks]
theorem wM (x : Nat) (h : x ≤ 4611686018427387904) : wrap64 ((x : Int) + 1) = ((x + 1 : Nat) : Int) := by
  rw [w64 (by omega) (by omega)]
  omega
theorem rdMSet (l : List S_Mark) (i : Nat) (h : i < l.length) (x : S_Mark) : rd_Mark (l.set i x) (i : Int) = x := by
  rw [rdM _ i (by simpa using h)]
  simp
theorem markMarkS_l0 (q n : Nat) (hq : q ≤ 1073741824) (hn : n ≤ 2097152) : ∀ (d i : Nat) (acc : List S_Mark), i + d = n → acc.length = n → acc.take i = mMarks q i →
    Ev (fun k => laws_markMarkS.l0 k acc ((q + 2 * i : Nat) : Int) (i : Int)) (((q + 2 * n : Nat) : Int), mMarks q n) := by
  intro d
  induction d with
  | zero =>
    intro i acc h1 h2 h3
    obtain rfl : i = n := by omega
    refine ev_step (fun _ => by rw [laws_markMarkS.l0]) ?_
    refine ev_neg (by omega) (ev_now ?_)
    rw [← h3, List.take_of_length_le (by omega)]
  | succ d ih =>
    intro i acc h1 h2 h3
    have hi : i < acc.length := by omega
    have hz : (i : Int) < (acc.length : Int) := by omega
    have h0 : (0 : Int) ≤ (i : Int) := by omega
    have hlast := ih (i + 1) (acc.set i (mMark (q + 2 * i))) (by omega) (by simp; omega) (by
      rw [List.take_succ_eq_append_getElem (by simp; omega), List.take_set_of_le (Nat.le_refl i), List.getElem_set_self, h3]
      simp [mMarks, List.range_succ])
    have w1 := wM (q + 2 * i) (by omega)
    have w2 := wM (q + 2 * i + 1) (by omega)
    have e := wM i (by omega)
    clear hq hn h1 h2 h3 ih
    refine ev_step (fun _ => by rw [laws_markMarkS.l0]) ?_
    refine ev_pos hz (ev_pos h0 ?_)
    simp only [w1, w2, e, Int.toNat_natCast]
    refine ev_some rfl ?_
    simp only [List.set_set, rdMSet _ i hi]
    exact hlast
theorem markMarkS (q : Nat) (l : List S_Mark) (hq : q ≤ 1073741824) (hn : l.length ≤ 2097152) : Ev (fun k => laws_markMarkS.f k l (q : Int)) (((q + 2 * l.length : Nat) : Int), mMarks q l.length) := markMarkS_l0 q l.length hq hn l.length 0 l (by omega) rfl (by simp [mMarks])
theorem heldMarkS_l0 (q n : Nat) (hq : q ≤ 1073741824) (hn : n ≤ 2097152) : ∀ (d i : Nat), i + d = n → Ev (fun k => laws_heldMarkS.l0 k (mMarks q n) ((q + 2 * i : Nat) : Int) (i : Int)) ((q + 2 * n : Nat) : Int) := by
  intro d
  induction d with
  | zero =>
    intro i h1
    obtain rfl : i = n := by omega
    refine ev_step (fun _ => by rw [laws_heldMarkS.l0]) ?_
    exact ev_neg (by rw [mMarks_len]; omega) (ev_now rfl)
  | succ d ih =>
    intro i h1
    have hl : (i : Int) < ((mMarks q n).length : Int) := by rw [mMarks_len]; omega
    have h0 : (0 : Int) ≤ (i : Int) := by omega
    have hr : rd_Mark (mMarks q n) (i : Int) = mMark (q + 2 * i) := by
      rw [rdM _ i (by omega)]
      simp [mMarks]
    have hlast := ih (i + 1) (by omega)
    have w1 := wM (q + 2 * i) (by omega)
    have w2 := wM (q + 2 * i + 1) (by omega)
    have e := wM i (by omega)
    clear hq hn h1 ih
    refine ev_step (fun _ => by rw [laws_heldMarkS.l0]) ?_
    refine ev_pos hl (ev_pos h0 ?_)
    rw [hr]
    refine ev_pos rfl ?_
    rw [w1, w2, e]
    exact ev_pos rfl hlast
theorem heldMarkS (q n : Nat) (hq : q ≤ 1073741824) (hn : n ≤ 2097152) : Ev (fun k => laws_heldMarkS.f k (mMarks q n) (q : Int)) ((q + 2 * n : Nat) : Int) := heldMarkS_l0 q n hq hn n 0 (by omega)
theorem markMaker (q : Nat) (a b c d : Int) (l : List S_Mark) (hq : q ≤ 1073741824) (hn : l.length ≤ 2097152) : Ev (fun k => laws_markMaker.f k a b c d l (q : Int)) (((q + 2 * l.length : Nat) : Int), mMarks q l.length) := ev_bind (markMarkS q l hq hn) (ev_now rfl)
end Go.Proofs.Ythmjhhkheohgfaa.L

/- The plain side of MakerOf and MakerSet: program and reference come to one answer; what is set is found. Condition: lists of at most 2^20 elements, of few marks each. -/
namespace Go.Proofs.Ythmjhhkheohgfaa.L
open Go.RowKit Go.Proofs.YthmjhhkheohgfaaW.PrintWords Go.Proofs.YthmjhhkheohgfaaW.PrintLast Go.Proofs.YthmjhhkheohgfaaW.PrintMore Go.Proofs.Ythmjhhkheohgfaa.Q

theorem rdMk (l : List S_Maker) (i : Nat) (h : i < l.length) : rd_Maker l (i : Int) = l[i] := by
  simp [rd_Maker, List.getD_eq_getElem?_getD, h]
/-- lists of makers of few marks -/
def fewM (n : Nat) (l : List S_Maker) : Prop := ∀ x ∈ l, x.f4.length ≤ n
theorem setL_len (a : S_Maker) : ∀ (l : List S_Maker) (p : Bool), (setL a l p).length ≤ l.length + (if p = true then 0 else 1) := by
  intro l
  induction l with
  | nil => intro p; cases p <;> simp [setL]
  | cons x t ih =>
    intro p
    rw [setL, List.length_append, List.length_append, List.length_cons]
    have h := ih (p || setC a x p)
    have e1 : (if setE a x = true then ([] : List S_Maker) else [x]).length ≤ 1 := by split <;> simp
    cases p with
    | true =>
      have : setC a x true = false := by simp [setC]
      rw [this] at h ⊢
      simp at h ⊢
      omega
    | false =>
      cases hc : setC a x false with
      | true =>
        rw [hc] at h
        simp at h ⊢
        omega
      | false =>
        rw [hc] at h
        simp at h ⊢
        omega
theorem specSet_l0 (a : S_Maker) (l : List S_Maker) (hn : l.length ≤ 1048576) (hm : fewM 2097152 l) (ha : a.f4.length ≤ 2097152) : ∀ (d i : Nat) (acc : List S_Maker) (p : Bool), i + d = l.length → acc.length + 2 * d ≤ 4194304 →
    Ev (fun k => spec_MakerSet.l0 k l acc p (i : Int) a.f0 a.f1 a.f2 a.f3 a.f4) (acc ++ setL a (l.drop i) p) := by
  intro d
  induction d with
  | zero =>
    intro i acc p h q
    refine ev_step (fun _ => by rw [spec_MakerSet.l0]) ?_
    refine ev_neg (by omega) ?_
    rw [List.drop_eq_nil_of_le (by omega)]
    cases p with
    | true => exact ev_pos rfl (ev_now (by simp [setL]))
    | false => exact ev_neg (by simp) (ev_some (specCopyMaker _ _ _ _ _ ha) (ev_pos (by omega) (ev_now rfl)))
  | succ d ih =>
    intro i acc p h q
    have e : wrap64 ((i : Int) + 1) = ((i + 1 : Nat) : Int) := by rw [w64 (by omega) (by omega)]; omega
    have hd : l.drop i = l[i] :: l.drop (i + 1) := List.drop_eq_getElem_cons (by omega)
    have hx := hm l[i] (List.getElem_mem _)
    have hr := rdMk l i (by omega)
    rw [hd]
    generalize l[i] = x at hr hx
    have next : ∀ (acc' : List S_Maker) (p' : Bool), acc'.length ≤ acc.length + 2 → acc' ++ setL a (l.drop (i + 1)) p' = acc ++ setL a (x :: l.drop (i + 1)) p → Ev (fun k => spec_MakerSet.l0 k l acc' p' ((i + 1 : Nat) : Int) a.f0 a.f1 a.f2 a.f3 a.f4) (acc ++ setL a (x :: l.drop (i + 1)) p) := fun acc' p' hl he => by
      rw [← he]
      exact ih (i + 1) acc' p' (by omega) (by omega)
    have j2 : ∀ c : Bool, c = setC a x p → setE a x = false → Ev (fun k => spec_MakerSet.j2 k l acc p (i : Int) c a.f0 a.f1 a.f2 a.f3 a.f4 x.f0 x.f1 x.f2 x.f3 x.f4) (acc ++ setL a (x :: l.drop (i + 1)) p) := fun c hc he => by
      refine ev_step (fun _ => by rw [spec_MakerSet.j2]) ?_
      rw [e]
      cases c with
      | true =>
        refine ev_pos rfl (ev_some (specCopyMaker _ _ _ _ _ ha) (ev_pos (by omega) (ev_some rfl (ev_some (specCopyMaker _ _ _ _ _ hx) (ev_pos (by simp only [List.length_append, List.length_singleton]; omega) ?_)))))
        exact next _ true (by simp) (by rw [setL, ← hc, he]; simp)
      | false =>
        refine ev_neg (by simp) (ev_some (specCopyMaker _ _ _ _ _ hx) (ev_pos (by omega) ?_))
        exact next _ p (by simp) (by rw [setL, ← hc, he]; simp)
    have j1 : ∀ b : Bool, b = setE a x → Ev (fun k => spec_MakerSet.j1 k l acc p (i : Int) b a.f0 a.f1 a.f2 a.f3 a.f4 x.f0 x.f1 x.f2 x.f3 x.f4) (acc ++ setL a (x :: l.drop (i + 1)) p) := fun b hb => by
      refine ev_step (fun _ => by rw [spec_MakerSet.j1]) ?_
      cases b with
      | true =>
        refine ev_pos rfl ?_
        rw [e]
        cases p with
        | true => exact ev_pos rfl (next acc true (by omega) (by rw [setL, ← hb]; simp [setC]))
        | false =>
          refine ev_neg (by simp) (ev_some (specCopyMaker _ _ _ _ _ ha) (ev_pos (by omega) ?_))
          exact next _ true (by simp) (by rw [setL, ← hb]; simp [setC, ← hb])
      | false =>
        refine ev_neg (by simp) ?_
        cases p with
        | true => exact ev_pos rfl (j2 false (by simp [setC]) hb.symm)
        | false =>
          refine ev_neg (by simp) ?_
          by_cases q1 : x.f0 > a.f0
          · exact ev_pos q1 (j2 true (by simp [setC, q1]) hb.symm)
          · refine ev_neg q1 ?_
            by_cases q2 : x.f0 = a.f0
            · exact ev_pos q2 (j2 _ (by simp [setC, ← hb, q2]) hb.symm)
            · exact ev_neg q2 (j2 false (by simp [setC, ← hb, q1, q2]) hb.symm)
    refine ev_step (fun _ => by rw [spec_MakerSet.l0]) ?_
    refine ev_pos (by omega) (ev_pos (by omega) ?_)
    rw [hr]
    by_cases q1 : x.f0 = a.f0
    · exact ev_pos q1 (j1 _ (by simp [setE, q1]))
    · exact ev_neg q1 (j1 _ (by simp [setE, q1]))
theorem specMakerSet (a : S_Maker) (l : List S_Maker) (hn : l.length ≤ 1048576) (hm : fewM 2097152 l) (ha : a.f4.length ≤ 2097152) : Ev (fun k => spec_MakerSet.f k l a.f0 a.f1 a.f2 a.f3 a.f4) (setL a l false) := by
  have := specSet_l0 a l hn hm ha l.length 0 [] false (by omega) (by simp; omega)
  rw [List.drop_zero, List.nil_append] at this
  exact this
theorem implCopyMakers_l0 (l : List S_Maker) (hn : l.length ≤ 2097152) (hm : fewM 2097152 l) : ∀ (d i : Nat) (acc : List S_Maker), i + d = l.length → acc.length ≤ i → Ev (fun k => impl_copyMakers.l0 k acc l (l.length : Int) (i : Int)) (acc ++ l.drop i) := by
  intro d
  induction d with
  | zero =>
    intro i acc h q
    refine ev_step (fun _ => by rw [impl_copyMakers.l0]) ?_
    exact ev_neg (by omega) (ev_now (by rw [List.drop_eq_nil_of_le (by omega), List.append_nil]))
  | succ d ih =>
    intro i acc h q
    have e : wrap64 ((i : Int) + 1) = ((i + 1 : Nat) : Int) := by rw [w64 (by omega) (by omega)]; omega
    refine ev_step (fun _ => by rw [impl_copyMakers.l0]) ?_
    rw [rdMk l i (by omega), e]
    refine ev_pos (by omega) (ev_pos (by omega) (ev_pos (by omega) (ev_some (implCopyMaker _ _ _ _ _ (hm _ (List.getElem_mem _))) (ev_pos (by omega) ?_))))
    have := ih (i + 1) (acc ++ [l[i]]) (by omega) (by simp; omega)
    rw [List.append_assoc, List.singleton_append, ← List.drop_eq_getElem_cons (by omega)] at this
    exact this
theorem implCopyMakers (l : List S_Maker) (hn : l.length ≤ 2097152) (hm : fewM 2097152 l) : Ev (fun k => impl_copyMakers.f k l) l := by
  have := implCopyMakers_l0 l hn hm l.length 0 [] (by omega) (by simp)
  rw [List.drop_zero, List.nil_append] at this
  exact this
theorem implMakerSet (a : S_Maker) (l : List S_Maker) (hn : l.length ≤ 1048576) (hm : fewM 2097152 l) (ha : a.f4.length ≤ 2097152) : Ev (fun k => impl_MakerSet.f k l a.f0 a.f1 a.f2 a.f3 a.f4) (setL a l false) :=
  ev_bind (implCopyMakers l (by omega) hm) (ev_some (implCopyMaker _ _ _ _ _ ha) (ev_pos (by omega) (ev_now rfl)))
end Go.Proofs.Ythmjhhkheohgfaa.L

/- The plain side of the laws' own words on lists of makers: their sizes, their copies, their marks. Condition: at most 2^20 makers and marks together behind the sizes' tests. -/
namespace Go.Proofs.Ythmjhhkheohgfaa.L
open Go.RowKit Go.Proofs.YthmjhhkheohgfaaW.PrintWords Go.Proofs.YthmjhhkheohgfaaW.PrintLast Go.Proofs.YthmjhhkheohgfaaW.PrintMore Go.Proofs.Ythmjhhkheohgfaa.Q

/-- a maker of the laws as one of the program -/
def maker (x : S_LMaker) : S_Maker := ⟨x.f0, x.f1, x.f2, x.f3, marks x.f4⟩
def makers (l : List S_LMaker) : List S_Maker := l.map maker
theorem makers_len (l : List S_LMaker) : (makers l).length = l.length := by simp [makers]
theorem rdLMk (l : List S_LMaker) (i : Nat) (h : i < l.length) : rd_LMaker l (i : Int) = l[i] := by
  simp [rd_LMaker, List.getD_eq_getElem?_getD, h]
def sumLM : List S_LMaker → Nat
  | [] => 0
  | x :: t => x.f4.length + sumLM t
def sumM : List S_Maker → Nat
  | [] => 0
  | x :: t => x.f4.length + sumM t
theorem sumM_makers (l : List S_LMaker) : sumM (makers l) = sumLM l := by
  induction l with
  | nil => rfl
  | cons x t ih => show (marks x.f4).length + sumM (makers t) = x.f4.length + sumLM t; rw [ih, marks_len]
theorem sumM_mem {l : List S_Maker} {x : S_Maker} (h : x ∈ l) : x.f4.length ≤ sumM l := by
  induction l with
  | nil => cases h
  | cons y t ih =>
    rcases List.mem_cons.1 h with rfl | h
    · show x.f4.length ≤ x.f4.length + sumM t; omega
    · have := ih h; show x.f4.length ≤ y.f4.length + sumM t; omega
theorem sumLM_mem {l : List S_LMaker} {x : S_LMaker} (h : x ∈ l) : x.f4.length ≤ sumLM l := by
  induction l with
  | nil => cases h
  | cons y t ih =>
    rcases List.mem_cons.1 h with rfl | h
    · show x.f4.length ≤ x.f4.length + sumLM t; omega
    · have := ih h; show x.f4.length ≤ y.f4.length + sumLM t; omega
theorem sumM_app (a b : List S_Maker) : sumM (a ++ b) = sumM a + sumM b := by
  induction a with
  | nil => simp [sumM]
  | cons x t ih => show x.f4.length + sumM (t ++ b) = x.f4.length + sumM t + sumM b; omega
theorem few_sum {l : List S_Maker} {n : Nat} (h : sumM l ≤ n) : fewM n l := fun _ hx => Nat.le_trans (sumM_mem hx) h
theorem setL_sum (a : S_Maker) : ∀ (l : List S_Maker) (p : Bool), sumM (setL a l p) ≤ sumM l + (if p = true then 0 else a.f4.length) := by
  intro l
  induction l with
  | nil => intro p; cases p <;> simp [setL, sumM]
  | cons x t ih =>
    intro p
    rw [setL, sumM_app, sumM_app]
    have h := ih (p || setC a x p)
    have e1 : sumM (if setE a x = true then ([] : List S_Maker) else [x]) ≤ x.f4.length := by split <;> simp [sumM]
    show _ ≤ x.f4.length + sumM t + _
    cases p with
    | true =>
      have : setC a x true = false := by simp [setC]
      rw [this] at h ⊢
      simp [sumM] at h ⊢
      omega
    | false =>
      cases hc : setC a x false with
      | true =>
        rw [hc] at h
        simp [sumM] at h ⊢
        omega
      | false =>
        rw [hc] at h
        simp [sumM] at h ⊢
        omega

theorem szMk (a b c d : Int) (l : List S_LMark) (t : Int) (hl : l.length ≤ maxLen) (h0 : 0 ≤ t) (ht : t ≤ 1048576) : ∃ r, laws_szMaker.f a b c d l t = some r ∧ r ≤ 1048576 ∧ (r = -1 ∨ (0 ≤ r ∧ r + l.length = t)) := by
  unfold maxLen at hl
  have e : wrap64 (t - (l.length : Int)) = t - (l.length : Int) := w64 (by omega) (by omega)
  unfold laws_szMaker.f laws_szMarkS.f
  rw [e]
  by_cases h : t - (l.length : Int) < 0
  · rw [if_pos h]
    exact ⟨-1, rfl, by omega, .inl rfl⟩
  · rw [if_neg h]
    refine ⟨t - (l.length : Int), ?_, by omega, .inr ⟨by omega, by omega⟩⟩
    show (if t - (l.length : Int) < 0 then some (-1) else some (t - (l.length : Int))) = _
    rw [if_neg h]
theorem szMakerS_l0 (l : List S_LMaker) (hn : l.length ≤ 1048576) (hl : ∀ x ∈ l, x.f4.length ≤ maxLen) : ∀ (s : List S_LMaker) (i : Nat) (t : Int), l.drop i = s → i ≤ l.length → 0 ≤ t → t ≤ 1048576 →
    ∃ r : Int, Ev (fun k => laws_szMakerS.l0 k l t (i : Int)) r ∧ r ≤ 1048576 ∧ (r = -1 ∨ (0 ≤ r ∧ r + sumLM s ≤ t)) := by
  intro s
  induction s with
  | nil =>
    intro i t hs hi h0 ht
    have : l.length ≤ i := by have := congrArg List.length hs; simp at this; omega
    exact ⟨t, ev_step (fun _ => rfl) (ev_neg (by omega) (ev_now rfl)), ht, .inr ⟨h0, by show t + ((0 : Nat) : Int) ≤ t; omega⟩⟩
  | cons x s ih =>
    intro i t hs hi h0 ht
    have hlt : i < l.length := by have := congrArg List.length hs; simp at this; omega
    have hx : l[i] = x ∧ l.drop (i + 1) = s := by rw [List.drop_eq_getElem_cons hlt] at hs; injection hs with a b; exact ⟨a, b⟩
    obtain ⟨r1, e1, hr1, hc⟩ := szMk x.f0 x.f1 x.f2 x.f3 x.f4 t (hl x (hx.1 ▸ List.getElem_mem hlt)) h0 ht
    have e : wrap64 ((i : Int) + 1) = ((i + 1 : Nat) : Int) := by rw [w64 (by omega) (by omega)]; omega
    rcases hc with rfl | ⟨p0, p1⟩
    · refine ⟨-1, ev_step (fun _ => rfl) (ev_pos (by omega) (ev_pos (by omega) ?_)), by omega, .inl rfl⟩
      rw [rdLMk l i hlt, hx.1]
      exact ev_some e1 (ev_pos (by omega) (ev_now rfl))
    · obtain ⟨r, e2, hr2, hc2⟩ := ih (i + 1) r1 hx.2 (by omega) p0 hr1
      refine ⟨r, ev_step (fun _ => rfl) (ev_pos (by omega) (ev_pos (by omega) ?_)), hr2, ?_⟩
      · rw [rdLMk l i hlt, hx.1]
        refine ev_some e1 (ev_neg (by omega) ?_)
        rw [e]
        exact e2
      · rcases hc2 with h | ⟨q0, q1⟩
        · exact .inl h
        · refine .inr ⟨q0, ?_⟩
          show r + ((x.f4.length + sumLM s : Nat) : Int) ≤ t
          omega
theorem szMakerS (l : List S_LMaker) (hn : l.length ≤ maxLen) (hl : ∀ x ∈ l, x.f4.length ≤ maxLen) : ∃ r : Int, Ev (fun k => laws_szMakerS.f k l 1048576) r ∧ r ≤ 1048576 ∧ (r = -1 ∨ (0 ≤ r ∧ r + (l.length + sumLM l : Nat) ≤ 1048576)) := by
  unfold maxLen at hn
  have e : wrap64 (1048576 - (l.length : Int)) = 1048576 - (l.length : Int) := w64 (by omega) (by omega)
  unfold laws_szMakerS.f
  rw [e]
  by_cases h : 1048576 - (l.length : Int) < 0
  · exact ⟨-1, ev_pos h (ev_now rfl), by omega, .inl rfl⟩
  · obtain ⟨r, e1, h1, hc⟩ := szMakerS_l0 l (by omega) hl l 0 (1048576 - (l.length : Int)) rfl (by omega) (by omega) (by omega)
    refine ⟨r, ev_neg h e1, h1, ?_⟩
    rcases hc with h | ⟨q0, q1⟩
    · exact .inl h
    · exact .inr ⟨q0, by omega⟩

theorem toMakerS_l0 (l : List S_LMaker) (hn : l.length ≤ 1048576) (hm : ∀ x ∈ l, x.f4.length ≤ 1048576) : ∀ (d i : Nat) (acc : List S_Maker), i + d = l.length → acc.length = l.length → Ev (fun k => laws_toMakerS.l0 k l acc (i : Int)) (acc.take i ++ (makers l).drop i) := by
  intro d
  induction d with
  | zero =>
    intro i acc h1 h2
    refine ev_step (fun _ => rfl) (ev_neg (by omega) (ev_now ?_))
    simp [List.take_of_length_le (show acc.length ≤ i by omega), List.drop_eq_nil_of_le (show (makers l).length ≤ i by rw [makers_len]; omega)]
  | succ d ih =>
    intro i acc h1 h2
    refine ev_step (fun _ => rfl) (ev_pos (by omega) (ev_pos (by omega) ?_))
    rw [rdLMk l i (by omega)]
    refine ev_bind (toMaker _ _ _ _ _ (hm _ (List.getElem_mem _))) (ev_pos (by omega) ?_)
    have e : wrap64 ((i : Int) + 1) = ((i + 1 : Nat) : Int) := by rw [w64 (by omega) (by omega)]; omega
    rw [e, Int.toNat_natCast]
    refine ev_eq ?_ (ih (i + 1) (acc.set i (maker l[i])) (by omega) (by simp; omega))
    rw [List.take_succ_eq_append_getElem (by simp; omega), List.take_set_of_le (Nat.le_refl i), List.getElem_set_self, List.drop_eq_getElem_cons (show i < (makers l).length by rw [makers_len]; omega)]
    simp [makers]
theorem toMakerS (l : List S_LMaker) (hn : l.length ≤ 1048576) (hm : ∀ x ∈ l, x.f4.length ≤ 1048576) : Ev (fun k => laws_toMakerS.f k l) (makers l) := by
  refine ev_pos (by omega) (ev_pos (by omega) ?_)
  have := toMakerS_l0 l hn hm l.length 0 (List.replicate ((l.length : Int)).toNat z_Maker) (by omega) (by simp)
  simpa using this
theorem eqMakerS_l0 (l : List S_Maker) (hn : l.length ≤ 2097152) (hm : fewM 2097152 l) : ∀ (d i : Nat), i + d = l.length → Ev (fun k => laws_eqMakerS.l0 k l l (i : Int)) true := by
  intro d
  induction d with
  | zero => intro i h; exact ev_step (fun _ => rfl) (ev_neg (by omega) (ev_now rfl))
  | succ d ih =>
    intro i h
    refine ev_step (fun _ => rfl) (ev_pos (by omega) (ev_pos (by omega) (ev_pos (by omega) ?_)))
    rw [rdMk l i (by omega)]
    refine ev_bind (eqMaker _ _ _ _ _ (hm _ (List.getElem_mem _))) (ev_pos rfl ?_)
    have e : wrap64 ((i : Int) + 1) = ((i + 1 : Nat) : Int) := by rw [w64 (by omega) (by omega)]; omega
    rw [e]
    exact ih (i + 1) (by omega)
theorem eqMakerS (l : List S_Maker) (hn : l.length ≤ 2097152) (hm : fewM 2097152 l) : Ev (fun k => laws_eqMakerS.f k l l) true := ev_pos rfl (eqMakerS_l0 l hn hm l.length 0 (by omega))

/-- makers that hold the numbers from q on -/
def mMakers : Nat → List S_Maker → List S_Maker
  | _, [] => []
  | q, x :: t => ⟨(q : Int), ((q + 1 : Nat) : Int), ((q + 2 : Nat) : Int), ((q + 3 : Nat) : Int), mMarks (q + 4) x.f4.length⟩ :: mMakers (q + 4 + 2 * x.f4.length) t
theorem wrap4 (q : Nat) (h : q ≤ 1073741824) : wrap64 ((q : Int) + 1) = ((q + 1 : Nat) : Int) ∧ wrap64 (wrap64 ((q : Int) + 1) + 1) = ((q + 2 : Nat) : Int) ∧ wrap64 (wrap64 (wrap64 ((q : Int) + 1) + 1) + 1) = ((q + 3 : Nat) : Int) ∧ wrap64 (wrap64 (wrap64 (wrap64 ((q : Int) + 1) + 1) + 1) + 1) = ((q + 4 : Nat) : Int) := by
  have h1 := wM q (by omega)
  have h2 := wM (q + 1) (by omega)
  have h3 := wM (q + 2) (by omega)
  have h4 := wM (q + 3) (by omega)
  rw [h1, h2, h3, h4]
  exact ⟨rfl, rfl, rfl, rfl⟩
theorem markMakerS_l0 : ∀ (s done : List S_Maker) (q : Nat), (done ++ s).length ≤ 2097152 → q + 4 * s.length + 2 * sumM s ≤ 1073741824 → sumM s ≤ 2097152 →
    Ev (fun k => laws_markMakerS.l0 k (done ++ s) (q : Int) (done.length : Int)) (((q + 4 * s.length + 2 * sumM s : Nat) : Int), done ++ mMakers q s) := by
  intro s
  induction s with
  | nil =>
    intro done q h1 h2 h3
    refine ev_step (fun _ => rfl) (ev_neg (by simp) (ev_now ?_))
    simp [sumM, mMakers]
  | cons x s ih =>
    intro done q h1 h2 h3
    have hs : sumM (x :: s) = x.f4.length + sumM s := rfl
    have hl : (x :: s).length = s.length + 1 := rfl
    rw [hs] at h2 h3
    rw [hl] at h2
    rw [List.length_append, hl] at h1
    have hlt : done.length < (done ++ x :: s).length := by rw [List.length_append, hl]; omega
    have b1 : q + 4 ≤ 1073741824 := by omega
    have b2 : x.f4.length ≤ 2097152 := by omega
    have b3 : q + 4 + 2 * x.f4.length + 4 * s.length + 2 * sumM s ≤ 1073741824 := by omega
    have b4 : sumM s ≤ 2097152 := by omega
    have b5 : q ≤ 1073741824 := by omega
    obtain ⟨w1, w2, w3, w4⟩ := wrap4 q b5
    refine ev_step (fun _ => rfl) (ev_pos (by omega) (ev_pos (by omega) ?_))
    have hg : (done ++ x :: s)[done.length] = x := by simp
    rw [w4, w3, w2, w1, rdMk _ _ hlt, hg]
    refine ev_bind (markMarkS (q + 4) x.f4 b1 b2) ?_
    have e : wrap64 ((done.length : Int) + 1) = ((done.length + 1 : Nat) : Int) := by rw [w64 (by omega) (by omega)]; omega
    rw [e, Int.toNat_natCast]
    have hd : (done ++ x :: s).set done.length (⟨(q : Int), ((q + 1 : Nat) : Int), ((q + 2 : Nat) : Int), ((q + 3 : Nat) : Int), mMarks (q + 4) x.f4.length⟩ : S_Maker) = (done ++ [(⟨(q : Int), ((q + 1 : Nat) : Int), ((q + 2 : Nat) : Int), ((q + 3 : Nat) : Int), mMarks (q + 4) x.f4.length⟩ : S_Maker)]) ++ s := by simp
    rw [hd]
    have := ih (done ++ [(⟨(q : Int), ((q + 1 : Nat) : Int), ((q + 2 : Nat) : Int), ((q + 3 : Nat) : Int), mMarks (q + 4) x.f4.length⟩ : S_Maker)]) (q + 4 + 2 * x.f4.length) (by simp; omega) b3 b4
    rw [List.length_append] at this
    refine ev_eq ?_ this
    refine Prod.ext ?_ ?_
    · show ((q + 4 + 2 * x.f4.length + 4 * s.length + 2 * sumM s : Nat) : Int) = ((q + 4 * (s.length + 1) + 2 * (x.f4.length + sumM s) : Nat) : Int)
      omega
    · show _ ++ mMakers _ s = done ++ (_ :: mMakers _ s)
      simp
theorem markMakerS (q : Nat) (l : List S_Maker) (hn : l.length ≤ 2097152) (hq : q + 4 * l.length + 2 * sumM l ≤ 1073741824) (hs : sumM l ≤ 2097152) : Ev (fun k => laws_markMakerS.f k l (q : Int)) (((q + 4 * l.length + 2 * sumM l : Nat) : Int), mMakers q l) :=
  markMakerS_l0 l [] q hn hq hs
theorem heldMakerS_l0 : ∀ (s done : List S_Maker) (q : Nat), (done ++ s).length ≤ 2097152 → q + 4 * s.length + 2 * sumM s ≤ 1073741824 → sumM s ≤ 2097152 →
    Ev (fun k => laws_heldMakerS.l0 k (done ++ mMakers q s) (q : Int) (done.length : Int)) ((q + 4 * s.length + 2 * sumM s : Nat) : Int) := by
  intro s
  induction s with
  | nil =>
    intro done q h1 h2 h3
    refine ev_step (fun _ => rfl) (ev_neg (by simp [mMakers]) (ev_now ?_))
    simp [sumM]
  | cons x s ih =>
    intro done q h1 h2 h3
    have hs : sumM (x :: s) = x.f4.length + sumM s := rfl
    have hl : (x :: s).length = s.length + 1 := rfl
    rw [hs] at h2 h3
    rw [hl] at h2
    rw [List.length_append, hl] at h1
    have b1 : q + 4 ≤ 1073741824 := by omega
    have b2 : x.f4.length ≤ 2097152 := by omega
    have b3 : q + 4 + 2 * x.f4.length + 4 * s.length + 2 * sumM s ≤ 1073741824 := by omega
    have b4 : sumM s ≤ 2097152 := by omega
    have b5 : q ≤ 1073741824 := by omega
    obtain ⟨w1, w2, w3, w4⟩ := wrap4 q b5
    show Ev (fun k => laws_heldMakerS.l0 k (done ++ (⟨(q : Int), ((q + 1 : Nat) : Int), ((q + 2 : Nat) : Int), ((q + 3 : Nat) : Int), mMarks (q + 4) x.f4.length⟩ : S_Maker) :: mMakers (q + 4 + 2 * x.f4.length) s) (q : Int) (done.length : Int)) _
    have hlt : done.length < (done ++ (⟨(q : Int), ((q + 1 : Nat) : Int), ((q + 2 : Nat) : Int), ((q + 3 : Nat) : Int), mMarks (q + 4) x.f4.length⟩ : S_Maker) :: mMakers (q + 4 + 2 * x.f4.length) s).length := by rw [List.length_append, List.length_cons]; omega
    refine ev_step (fun _ => rfl) (ev_pos (by omega) (ev_pos (by omega) ?_))
    rw [w4, w3, w2, w1, rdMk _ _ hlt]
    simp only [List.getElem_append_right (Nat.le_refl _), Nat.sub_self, List.getElem_cons_zero]
    refine ev_pos trivial (ev_pos trivial (ev_pos trivial (ev_pos trivial (ev_bind (heldMarkS (q + 4) x.f4.length b1 b2) (ev_neg (Int.not_lt.2 (Int.natCast_nonneg _)) ?_)))))
    have e : wrap64 ((done.length : Int) + 1) = ((done.length + 1 : Nat) : Int) := by rw [w64 (by omega) (by omega)]; omega
    rw [e]
    have := ih (done ++ [(⟨(q : Int), ((q + 1 : Nat) : Int), ((q + 2 : Nat) : Int), ((q + 3 : Nat) : Int), mMarks (q + 4) x.f4.length⟩ : S_Maker)]) (q + 4 + 2 * x.f4.length) (by simp; omega) b3 b4
    rw [List.length_append, List.append_assoc] at this
    refine ev_eq ?_ this
    show ((q + 4 + 2 * x.f4.length + 4 * s.length + 2 * sumM s : Nat) : Int) = ((q + 4 * (s.length + 1) + 2 * (x.f4.length + sumM s) : Nat) : Int)
    omega
theorem heldMakerS (q : Nat) (l : List S_Maker) (hn : l.length ≤ 2097152) (hq : q + 4 * l.length + 2 * sumM l ≤ 1073741824) (hs : sumM l ≤ 2097152) : Ev (fun k => laws_heldMakerS.f k (mMakers q l) (q : Int)) ((q + 4 * l.length + 2 * sumM l : Nat) : Int) :=
  heldMakerS_l0 l [] q hn hq hs
end Go.Proofs.Ythmjhhkheohgfaa.L

/- FnExactMakerSet as a plain statement: proved for all arguments. -/
namespace Go.Proofs.Ythmjhhkheohgfaa.Pure
open Go.RowKit Go.Proofs.YthmjhhkheohgfaaW.PrintWords Go.Proofs.YthmjhhkheohgfaaW.PrintLast Go.Proofs.YthmjhhkheohgfaaW.PrintMore Go.Proofs.Ythmjhhkheohgfaa.Q Go.Proofs.Ythmjhhkheohgfaa.L Go.Proofs.Ythmjhhkheohgfaa.R

theorem FnExactMakerSet (l : List S_LMaker) (a b c d : Int) (m : List S_LMark) (hl : l.length ≤ maxLen ∧ ∀ y ∈ l, WF_LMaker y) (_ : (Lit.int .i64 a).wf = true) (_ : (Lit.int .i64 b).wf = true) (_ : (Lit.int .i64 c).wf = true) (_ : (Lit.int .i64 d).wf = true) (hm : m.length ≤ maxLen ∧ ∀ y ∈ m, WF_LMark y) : ∃ k, laws_FnExactMakerSet.f k l a b c d m = some true := by
  refine Ev.rounds (g := fun k => laws_FnExactMakerSet.f k l a b c d m) ?_
  obtain ⟨t, ht, t1, hs⟩ := szMakerS l hl.1 (fun x hx => (hl.2 x hx).2.2.2.2.1)
  unfold laws_FnExactMakerSet.f
  refine ev_bind ht (ev_ite (fun _ => ev_now rfl) (fun h => ?_))
  obtain ⟨t0, hb⟩ := hs.resolve_left (by omega)
  obtain ⟨u, hu, u1, hv⟩ := szMk a b c d m t hm.1 t0 t1
  refine ev_some hu (ev_ite (fun _ => ev_now rfl) (fun h' => ?_))
  obtain ⟨u0, hw⟩ := hv.resolve_left (by omega)
  have h1 : l.length ≤ 1048576 := by omega
  have h2 : sumLM l ≤ 1048576 := by omega
  have h3 : (makers l).length ≤ 1048576 := by rw [makers_len]; exact h1
  have h4 : sumM (makers l) ≤ 1048576 := by rw [sumM_makers]; exact h2
  have hf : fewM 2097152 (makers l) := few_sum (by omega)
  have hn : m.length ≤ 1048576 := by omega
  have hk : (marks m).length ≤ 1048576 := by rw [marks_len]; exact hn
  have e0 := toMakerS l h1 (fun x hx => Nat.le_trans (sumLM_mem hx) h2)
  have e3 := toMaker a b c d m hn
  have e1 : Ev (fun k => spec_MakerSet.f k (makers l) a b c d (marks m)) _ := specMakerSet ⟨a, b, c, d, marks m⟩ (makers l) h3 hf (by show (marks m).length ≤ _; omega)
  have e2 : Ev (fun k => impl_MakerSet.f k (makers l) a b c d (marks m)) _ := implMakerSet ⟨a, b, c, d, marks m⟩ (makers l) h3 hf (by show (marks m).length ≤ _; omega)
  have g1 : (setL ⟨a, b, c, d, marks m⟩ (makers l) false).length ≤ (makers l).length + 1 := setL_len ⟨a, b, c, d, marks m⟩ (makers l) false
  have g2 : sumM (setL ⟨a, b, c, d, marks m⟩ (makers l) false) ≤ sumM (makers l) + (marks m).length := setL_sum ⟨a, b, c, d, marks m⟩ (makers l) false
  generalize setL ⟨a, b, c, d, marks m⟩ (makers l) false = v at e1 e2 g1 g2
  have g3 : v.length ≤ 2097152 := by omega
  have g4 : sumM v ≤ 2097152 := by omega
  have mk : Ev (fun k => laws_markMakerS.f k (makers l) 1) _ := markMakerS 1 (makers l) (by omega) (by omega) (by omega)
  have mm := markMaker (1 + 4 * (makers l).length + 2 * sumM (makers l)) a b c d (marks m) (by omega) (by omega)
  have mv : Ev (fun k => laws_markMakerS.f k v 1) _ := markMakerS 1 v g3 (by omega) g4
  have hd : Ev (fun k => laws_heldMakerS.f k (mMakers 1 v) 1) _ := heldMakerS 1 v g3 (by omega) g4
  refine ev_bind e0 (ev_bind e3 (ev_bind e1 (ev_bind e2 (ev_bind (eqMakerS v g3 (few_sum g4)) (ev_bind (eqMakerS (makers l) (by omega) hf) (ev_bind (eqMaker a b c d (marks m) (by omega)) (ev_bind mk (ev_bind mm (ev_bind mv (ev_bind hd ?_))))))))))
  exact ev_pos ⟨⟨⟨rfl, rfl⟩, rfl⟩, ⟨Int.not_lt.2 (Int.natCast_nonneg _), Int.not_lt.2 (Int.natCast_nonneg _)⟩, rfl⟩ (ev_now rfl)
end Go.Proofs.Ythmjhhkheohgfaa.Pure

/- The law FnExactMakerSet: its statement holds, for all arguments. Made by a program of ours out of the plain theorem and the walk. No condition. -/
namespace Go.Proofs.Ythmjhhkheohgfaa.fnExactMakerSet
open Go.ChangeShapes Go.WideShapes Go.ChangeAt Go.RowKit Go.Proofs.YthmjhhkheohgfaaW.PrintWords Go.Proofs.Ythmjhhkheohgfaa.Q Go.Proofs.Ythmjhhkheohgfaa.R
open Go.ChangeMaps (open_string shut_string)
set_option linter.unusedVariables false
theorem own : ownKnob Try.prog.godebug = none := by kernel_rfl
theorem laidOut : laidOutB Try.prog = true := by kernel_rfl
set_option maxRecDepth 100000 in
theorem lifted (os : Os) (started : os.Started) (H : Type) (enc : TypeId × Value → H) :
    ReturnsInHanded {} Try.checked os 5 .any (Rows.fnExactMakerSetSpec.pre6 enc Try.prog Try.f5 Rows.fnExactMakerSetRow.domain false) (Rows.fnExactMakerSetSpec.post enc Try.prog Try.f5 false true false false) := by
  refine returnsInHanded_of_change_sized (C := Try.checked) own started (by kernel_rfl) Try.func5
    (ChangeSpec.witness6 (enc := enc) (C := Try.checked) false ⟨#[], #[.slice none 0 0, .agg #[.int .i64 0, .int .i64 0, .int .i64 0, .int .i64 0, .slice none 0 0]], []⟩ 8 (by kernel_rfl) (by kernel_rfl) (by kernel_rfl) (by kernel_rfl)) ?_
  intro W base args ds gs before hval0 hW hcnd hsz0 _
  have hval : ∀ (j : Nat) t v, Try.f5.params[j]? = some t → args[j]? = some v → Value.okWide Try.prog W .any base t v := hval0
  have hW' := hW
  obtain ⟨p, q, hA0, hV, rfl, hfz, hnd⟩ := hW
  have hA : DataW.TrodAll enc Try.prog W 0 (fun _ => true) true Try.f5.params.toList args.toList ds p := hA0
  rw [Try.params5] at hA hval
  obtain ⟨v0, vs0, d0, ds0, p0, q0, hargs, rfl, rfl, h0, r0⟩ := trodAll_cons hA
  obtain ⟨v1, vs1, d1, ds1, p1, q1, rfl, rfl, rfl, h1, r1⟩ := trodAll_cons r0
  obtain ⟨rfl, rfl, rfl⟩ := trodAll_nil r1
  obtain rfl : args = #[v0, v1] := by cases args; simp_all
  obtain ⟨rfl, rfl⟩ := trodVars_none hV
  have k0 := h0
  have lt0 : ∀ x ∈ p0, x.block < W.heap.size := by obtain ⟨m, hm⟩ := k0; exact DataW.trod_lt m _ _ _ hm
  obtain ⟨A0, len0, c0, rfl⟩ := okWide_slice Try.underlying34 (hval 0 34 v0 rfl rfl)
  obtain ⟨fuel0, hf0⟩ := h0
  obtain ⟨l0, ⟨A0', c0', hz0, hc0, hr0⟩, w0⟩ := (rd_slice Try.underlying34 (by kernel_rfl) rd_LMaker) H enc W 0 (fun _ => true) true fuel0 _ _ hf0
  obtain ⟨rfl, rfl, rfl⟩ : A0 = A0' ∧ len0 = l0.length ∧ c0 = c0' := by simpa [Value.cells] using hz0
  have k1 := h1
  have lt1 : ∀ x ∈ p1, x.block < W.heap.size := by obtain ⟨m, hm⟩ := k1; exact DataW.trod_lt m _ _ _ hm
  obtain ⟨cs1, rfl, hsz1⟩ := okWide_struct Try.underlying49 (hval 1 49 v1 rfl rfl)
  obtain ⟨fuel1, hf1⟩ := h1
  obtain ⟨a1_0, a1_1, a1_2, a1_3, a1_4, A1_4, c1_4, hz1, w1_0, w1_1, w1_2, w1_3, w1_4, hc1_4, hr1_4⟩ := open_LMaker (cs := cs1.toList) hf1
  obtain rfl : cs1 = #[.int .i64 a1_0, .int .i64 a1_1, .int .i64 a1_2, .int .i64 a1_3, .slice A1_4 a1_4.length c1_4] := by apply Array.toList_inj.mp; exact hz1
  clear hA0 hval0 hsz0
  obtain ⟨k, hk⟩ := Pure.FnExactMakerSet l0 a1_0 a1_1 a1_2 a1_3 a1_4 w0 w1_0 w1_1 w1_2 w1_3 w1_4
  refine (laws_FnExactMakerSet.calls (w := W) (hr0 := hr0) (hc0 := hc0) (hr1_4 := hr1_4) (hc1_4 := hc1_4) (h := hk)).mono fun e W' he => ?_
  obtain ⟨rfl, bel0⟩ := he
  have bel : Below W.heap.size W W' := by first | exact bel0 | exact Drawn0.below bel0
  exact ⟨_, rfl, _, _, _, [], _, [], hW', trodAll_mk1 (shut_bool Try.underlying4 _), (trodAll_cons_mk (Below.trod laidOut (by kernel_rfl) (of_decide_eq_true (by kernel_rfl)) k0 bel lt0) (trodAll_cons_mk (Below.trod laidOut (by kernel_rfl) (of_decide_eq_true (by kernel_rfl)) k1 bel lt1) trodAll_mk0)), rfl, bel.frame _, fun h => by cases h⟩
theorem over : Rows.fnExactMakerSetRow.holds Try.pinned (OpenSpec.ofChange Rows.fnExactMakerSetSpec) :=
  OpenClaim.holds_of_wide 5 Try.f5 rfl rfl rfl rfl rfl rfl rfl ⟨rfl, rfl, rfl, rfl, rfl⟩ rfl rfl rfl rfl rfl (by kernel_rfl) Try.func5 (by kernel_rfl)
    (of_decide_eq_true (by kernel_rfl)) (by unfold Func.isWrapper; first | (rw [if_pos (by decide +kernel)]; kernel_rfl) | (rw [if_neg (by decide +kernel)]; exact ⟨rfl, rfl⟩))
    (fun os started H enc _ => lifted os started H enc)
end Go.Proofs.Ythmjhhkheohgfaa.fnExactMakerSet
namespace Go.Proofs.Ythmjhhkheohgfaa
/-- The row, under a short name, for the claim. -/
theorem fnExactMakerSet_holds : Rows.FnExactMakerSetSaid := fnExactMakerSet.over
#print axioms fnExactMakerSet_holds
end Go.Proofs.Ythmjhhkheohgfaa

