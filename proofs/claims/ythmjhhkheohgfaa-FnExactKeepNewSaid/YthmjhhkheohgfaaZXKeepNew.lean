/- The law FnExactKeepNew holds, for all arguments: its row, and behind it the plain side of what the program and the reference compute. Conditions: those that each theorem states; the row has none. -/
import Derived.Test.YthmjhhkheohgfaaRows
import Derived.Deep.Slices
import Derived.ChangeArms
import Derived.WideShapes
import Derived.WalkKit
import Derived.ProofKit
import Derived.OpenShut
import Derived.ShutString
import Derived.ChangeOld
import Derived.Below
import Derived.SizedLaws
import Derived.Test.YthmjhhkheohgfaaZXKeepNew0
import Derived.Test.YthmjhhkheohgfaaZXKeepNewa
import Derived.Test.YthmjhhkheohgfaaZXKeepNewb
import Derived.Test.YthmjhhkheohgfaaZXKeepNewc
import Derived.Test.YthmjhhkheohgfaaZXKeepNewd
import Derived.Test.YthmjhhkheohgfaaZXKeepNewe
import Derived.Test.YthmjhhkheohgfaaZXKeepNewf
/- What is read as data is of a printed kind: whole numbers, texts, structs of one-cell fields, slices. For the laws' rows. No condition. -/
namespace Go.Proofs.Ythmjhhkheohgfaa.R
open Go.RowKit Go.Proofs.YthmjhhkheohgfaaW.PrintWords Go.WideShapes

/-- Whatever is read as data of type t has cells that are of kind d. -/
def Rd {α : Type} (P : Program) (t : TypeId) (d : Kd α) (wf : α → Prop) : Prop :=
  ∀ (H : Type) (enc : TypeId × Value → H) (W : World) (base : Nat) (spare : Nat → Bool) (held : Bool) (fuel : Nat) (cs : List Value) (x : DataW H × List MemPlace),
    DataW.trod enc P W base spare held fuel t cs = some x → ∃ a, d.K W a cs ∧ wf a
theorem rd_int {P : Program} {t : TypeId} {k : IntKind} (ht : P.underlying t = some (.int k)) : Rd P t (Kd.int k) (fun n => (Lit.int k n).wf = true) := by
  intro H enc W base spare held fuel cs x h
  obtain ⟨n, rfl, _, hw⟩ := DataW.trod_int ht h
  exact ⟨n, rfl, hw⟩
theorem rd_string {P : Program} {t : TypeId} (ht : P.underlying t = some .string) : Rd P t Kd.string (fun s => s.size ≤ maxLen) := by
  intro H enc W base spare held fuel cs x h
  obtain ⟨s, rfl, _, hw⟩ := DataW.trod_string ht h
  exact ⟨s, rfl, hw⟩
theorem rd_slice {α : Type} {P : Program} {t e : TypeId} {d : Kd α} {wf : α → Prop} (ht : P.underlying t = some (.slice e)) (hs : P.cellsOf e = d.sz) (hr : Rd P e d wf) :
    Rd P t (Kd.slice e d) (fun xs => xs.length ≤ maxLen ∧ ∀ x ∈ xs, wf x) := by
  intro H enc W base spare held fuel cs x h
  rcases Go.Deep.open_slice ht h with ⟨rfl, _⟩ | ⟨a, len, cap, m, n, D, Pl, rfl, hb, hl, hm, hmm, _, hx⟩
  · exact ⟨[], ⟨none, 0, rfl, Nat.le_refl _, rfl, by simp, fun h0 => absurd h0 (by simp)⟩, by simp, by simp⟩
  · have hml : len ≤ m := by rw [hmm]; split <;> omega
    have key : ∀ i, i < len → ∃ p : α, wf p ∧ ∃ c, c.length = d.sz ∧ d.K W p c ∧ ∀ q u, c[q]? = some u → W.cell? (a.add (i * d.sz + q)) = some u := by
      intro i hi
      obtain ⟨cs', h1, h2⟩ := hx i (by omega)
      obtain ⟨p, hp, hw⟩ := hr H enc W base spare held n cs' _ h2
      obtain ⟨_, hlen, hc⟩ := World.cells?_some h1
      rw [hs] at hlen hc
      refine ⟨p, hw, cs', hlen, hp, fun q u hq => ?_⟩
      have hq' : q < d.sz := by
        have := (List.getElem?_eq_some_iff.1 hq).1
        omega
      rw [← hq, ← hc q hq', Go.Deep.add_add]
    have key2 : ∃ f : Nat → Option α, ∀ i, i < len → ∃ p, f i = some p ∧ wf p ∧ ∃ c, c.length = d.sz ∧ d.K W p c ∧ ∀ q u, c[q]? = some u → W.cell? (a.add (i * d.sz + q)) = some u := by
      classical
      refine ⟨fun i => if hi : i < len then some (Classical.choose (key i hi)) else none, fun i hi => ⟨Classical.choose (key i hi), by simp [hi], Classical.choose_spec (key i hi)⟩⟩
    obtain ⟨f, hf⟩ := key2
    have hlen : ∀ k, k ≤ len → ((List.range k).filterMap f).length = k ∧ ∀ j, j < k → ((List.range k).filterMap f)[j]? = f j := by
      intro k
      induction k with
      | zero => intro _; exact ⟨rfl, fun j hj => absurd hj (by omega)⟩
      | succ k ih =>
        intro hk
        obtain ⟨i1, i2⟩ := ih (by omega)
        obtain ⟨p, hp, _⟩ := hf k (by omega)
        have e : (List.range (k + 1)).filterMap f = (List.range k).filterMap f ++ [p] := by rw [List.range_succ, List.filterMap_append]; simp [hp]
        refine ⟨by rw [e]; simp [i1], fun j hj => ?_⟩
        rw [e]
        rcases Nat.lt_or_ge j k with h1 | h1
        · rw [List.getElem?_append_left (by omega)]; exact i2 j h1
        · obtain rfl : j = k := by omega
          rw [List.getElem?_append_right (by omega), i1]; simp [hp]
    obtain ⟨i1, i2⟩ := hlen len (Nat.le_refl _)
    refine ⟨(List.range len).filterMap f, ⟨some a, cap, by rw [i1], by rw [i1]; exact hl, rfl, by rw [i1]; simp only [maxLen] at hm; omega, fun _ => ⟨a, rfl, fun j p hj => ?_⟩⟩, by rw [i1]; omega, fun p hp => ?_⟩
    · have hj' : j < len := by
        have := (List.getElem?_eq_some_iff.1 hj).1
        omega
      obtain ⟨p', hp', _, hc⟩ := hf j hj'
      rw [i2 j hj', hp'] at hj
      cases hj
      exact hc
    · obtain ⟨i, hi, hfi⟩ := List.mem_filterMap.1 hp
      obtain ⟨p', hp', hw, _⟩ := hf i (by simpa using hi)
      rw [hp'] at hfi
      cases hfi
      exact hw
/-- The fields of a struct, each of one cell, cell by cell. -/
theorem rd_fields {H : Type} {enc : TypeId × Value → H} {P : Program} {W : World} {base : Nat} {spare : Nat → Bool} {held : Bool} {fuel : Nat} {t : TypeId} {fs : Array Field} {cs : List Value} {x : DataW H × List MemPlace}
    (ht : P.underlying t = some (.struct fs)) (h : DataW.trod enc P W base spare held fuel t cs = some x) : cs.length = P.cellsOf t ∧ ∃ n, ∀ (i : Nat) (f : Field), fs[i]? = some f → ∃ y, DataW.trod enc P W base spare held n f.type ((cs.drop f.offset).take (P.cellsOf f.type)) = some y := by
  obtain ⟨xs, n, _, _, hl, hlen, hf⟩ := DataW.trod_struct ht h
  refine ⟨hl, n, fun i f hi => ?_⟩
  have hi' : i < xs.length := by
    rw [hlen]
    exact (Array.getElem?_eq_some_iff.1 hi).1
  exact ⟨xs[i], by rw [hf i f hi, List.getElem?_eq_getElem hi']⟩
end Go.Proofs.Ythmjhhkheohgfaa.R

/- How the laws' arguments of this seat are opened: what is read as data has the cells that the walks want. No condition. -/
namespace Go.Proofs.Ythmjhhkheohgfaa.R
open Go.RowKit Go.Proofs.YthmjhhkheohgfaaW.PrintWords Go.WideShapes Go.Proofs.Ythmjhhkheohgfaa.Q
set_option linter.unusedVariables false
theorem cells_2 {cs : List Value} (h : cs.length = 2) : ∃ z0 z1, cs = [z0, z1] := by
  match cs, h with
  | [y0, y1], _ => exact ⟨y0, y1, rfl⟩
theorem cells_3 {cs : List Value} (h : cs.length = 3) : ∃ z0 z1 z2, cs = [z0, z1, z2] := by
  match cs, h with
  | [y0, y1, y2], _ => exact ⟨y0, y1, y2, rfl⟩
theorem cells_4 {cs : List Value} (h : cs.length = 4) : ∃ z0 z1 z2 z3, cs = [z0, z1, z2, z3] := by
  match cs, h with
  | [y0, y1, y2, y3], _ => exact ⟨y0, y1, y2, y3, rfl⟩
theorem cells_5 {cs : List Value} (h : cs.length = 5) : ∃ z0 z1 z2 z3 z4, cs = [z0, z1, z2, z3, z4] := by
  match cs, h with
  | [y0, y1, y2, y3, y4], _ => exact ⟨y0, y1, y2, y3, y4, rfl⟩
theorem open_LSetup {H : Type} {enc : TypeId × Value → H} {W : World} {base : Nat} {spare : Nat → Bool} {held : Bool} {fuel : Nat} {cs : List Value} {x : DataW H × List MemPlace} (h : DataW.trod enc Try.prog W base spare held fuel 74 cs = some x) :
    ∃ (b0 : Int) (b1 : Int) (b2 : Int) (b3 : Int), cs = [.int .i64 b0, .int .i64 b1, .int .i64 b2, .int .i64 b3] ∧ ((Lit.int .i64 b0).wf = true) ∧ ((Lit.int .i64 b1).wf = true) ∧ ((Lit.int .i64 b2).wf = true) ∧ ((Lit.int .i64 b3).wf = true) := by
  obtain ⟨hl, n, hf⟩ := rd_fields Try.underlying74 h
  have hl' : cs.length = 4 := hl.trans (by kernel_rfl)
  obtain ⟨z0, z1, z2, z3, rfl⟩ := cells_4 hl'
  have cc3 : Try.prog.cellsOf 3 = 1 := by kernel_rfl
  obtain ⟨e0, he0⟩ := hf 0 _ rfl
  have hc0 : DataW.trod enc Try.prog W base spare held n 3 [z0] = some e0 := by simpa [cc3] using he0
  obtain ⟨b0, hk0, w0⟩ := (rd_int Try.underlying3) H enc W base spare held n [z0] _ hc0
  obtain rfl : z0 = .int .i64 b0 := by injection hk0
  obtain ⟨e1, he1⟩ := hf 1 _ rfl
  have hc1 : DataW.trod enc Try.prog W base spare held n 3 [z1] = some e1 := by simpa [cc3] using he1
  obtain ⟨b1, hk1, w1⟩ := (rd_int Try.underlying3) H enc W base spare held n [z1] _ hc1
  obtain rfl : z1 = .int .i64 b1 := by injection hk1
  obtain ⟨e2, he2⟩ := hf 2 _ rfl
  have hc2 : DataW.trod enc Try.prog W base spare held n 3 [z2] = some e2 := by simpa [cc3] using he2
  obtain ⟨b2, hk2, w2⟩ := (rd_int Try.underlying3) H enc W base spare held n [z2] _ hc2
  obtain rfl : z2 = .int .i64 b2 := by injection hk2
  obtain ⟨e3, he3⟩ := hf 3 _ rfl
  have hc3 : DataW.trod enc Try.prog W base spare held n 3 [z3] = some e3 := by simpa [cc3] using he3
  obtain ⟨b3, hk3, w3⟩ := (rd_int Try.underlying3) H enc W base spare held n [z3] _ hc3
  obtain rfl : z3 = .int .i64 b3 := by injection hk3
  exact ⟨b0, b1, b2, b3, rfl, w0, w1, w2, w3⟩
def WF_LMark (x : S_LMark) : Prop := ((Lit.int .i64 x.f0).wf = true) ∧ ((Lit.int .i64 x.f1).wf = true)
theorem rd_LMark : Rd Try.prog 134 k_LMark WF_LMark := by
  intro H enc W base spare held fuel cs x h
  obtain ⟨hl, n, hf⟩ := rd_fields Try.underlying134 h
  have hl' : cs.length = 2 := hl.trans (by kernel_rfl)
  obtain ⟨z0, z1, rfl⟩ := cells_2 hl'
  have cc3 : Try.prog.cellsOf 3 = 1 := by kernel_rfl
  obtain ⟨e0, he0⟩ := hf 0 _ rfl
  have hc0 : DataW.trod enc Try.prog W base spare held n 3 [z0] = some e0 := by simpa [cc3] using he0
  obtain ⟨b0, hk0, w0⟩ := (rd_int Try.underlying3) H enc W base spare held n [z0] _ hc0
  obtain rfl : z0 = .int .i64 b0 := by injection hk0
  obtain ⟨e1, he1⟩ := hf 1 _ rfl
  have hc1 : DataW.trod enc Try.prog W base spare held n 3 [z1] = some e1 := by simpa [cc3] using he1
  obtain ⟨b1, hk1, w1⟩ := (rd_int Try.underlying3) H enc W base spare held n [z1] _ hc1
  obtain rfl : z1 = .int .i64 b1 := by injection hk1
  exact ⟨⟨b0, b1⟩, k_LMark_mk W ⟨b0, b1⟩ , ⟨w0, w1⟩⟩
def WF_LMaker (x : S_LMaker) : Prop := ((Lit.int .i64 x.f0).wf = true) ∧ ((Lit.int .i64 x.f1).wf = true) ∧ ((Lit.int .i64 x.f2).wf = true) ∧ ((Lit.int .i64 x.f3).wf = true) ∧ (x.f4.length ≤ maxLen ∧ ∀ y ∈ x.f4, WF_LMark y)
theorem rd_LMaker : Rd Try.prog 49 k_LMaker WF_LMaker := by
  intro H enc W base spare held fuel cs x h
  obtain ⟨hl, n, hf⟩ := rd_fields Try.underlying49 h
  have hl' : cs.length = 5 := hl.trans (by kernel_rfl)
  obtain ⟨z0, z1, z2, z3, z4, rfl⟩ := cells_5 hl'
  have cc3 : Try.prog.cellsOf 3 = 1 := by kernel_rfl
  have cc47 : Try.prog.cellsOf 47 = 1 := by kernel_rfl
  obtain ⟨e0, he0⟩ := hf 0 _ rfl
  have hc0 : DataW.trod enc Try.prog W base spare held n 3 [z0] = some e0 := by simpa [cc3] using he0
  obtain ⟨b0, hk0, w0⟩ := (rd_int Try.underlying3) H enc W base spare held n [z0] _ hc0
  obtain rfl : z0 = .int .i64 b0 := by injection hk0
  obtain ⟨e1, he1⟩ := hf 1 _ rfl
  have hc1 : DataW.trod enc Try.prog W base spare held n 3 [z1] = some e1 := by simpa [cc3] using he1
  obtain ⟨b1, hk1, w1⟩ := (rd_int Try.underlying3) H enc W base spare held n [z1] _ hc1
  obtain rfl : z1 = .int .i64 b1 := by injection hk1
  obtain ⟨e2, he2⟩ := hf 2 _ rfl
  have hc2 : DataW.trod enc Try.prog W base spare held n 3 [z2] = some e2 := by simpa [cc3] using he2
  obtain ⟨b2, hk2, w2⟩ := (rd_int Try.underlying3) H enc W base spare held n [z2] _ hc2
  obtain rfl : z2 = .int .i64 b2 := by injection hk2
  obtain ⟨e3, he3⟩ := hf 3 _ rfl
  have hc3 : DataW.trod enc Try.prog W base spare held n 3 [z3] = some e3 := by simpa [cc3] using he3
  obtain ⟨b3, hk3, w3⟩ := (rd_int Try.underlying3) H enc W base spare held n [z3] _ hc3
  obtain rfl : z3 = .int .i64 b3 := by injection hk3
  obtain ⟨e4, he4⟩ := hf 4 _ rfl
  have hc4 : DataW.trod enc Try.prog W base spare held n 47 [z4] = some e4 := by simpa [cc47] using he4
  obtain ⟨b4, hk4, w4⟩ := (rd_slice Try.underlying47 (by kernel_rfl) rd_LMark) H enc W base spare held n [z4] _ hc4
  obtain ⟨A4, c4, hz4, l4, g4⟩ := hk4
  obtain rfl : z4 = .slice A4 b4.length c4 := by injection hz4
  exact ⟨⟨b0, b1, b2, b3, b4⟩, k_LMaker_mk W ⟨b0, b1, b2, b3, b4⟩ l4 g4, ⟨w0, w1, w2, w3, w4⟩⟩
theorem open_LMaker {H : Type} {enc : TypeId × Value → H} {W : World} {base : Nat} {spare : Nat → Bool} {held : Bool} {fuel : Nat} {cs : List Value} {x : DataW H × List MemPlace} (h : DataW.trod enc Try.prog W base spare held fuel 49 cs = some x) :
    ∃ (b0 : Int) (b1 : Int) (b2 : Int) (b3 : Int) (b4 : List S_LMark) (A4 : Option Addr) (c4 : Nat), cs = [.int .i64 b0, .int .i64 b1, .int .i64 b2, .int .i64 b3, .slice A4 b4.length c4] ∧ ((Lit.int .i64 b0).wf = true) ∧ ((Lit.int .i64 b1).wf = true) ∧ ((Lit.int .i64 b2).wf = true) ∧ ((Lit.int .i64 b3).wf = true) ∧ (b4.length ≤ maxLen ∧ ∀ y ∈ b4, WF_LMark y) ∧ b4.length ≤ c4 ∧ Kd.C k_LMark W A4 b4.length b4 := by
  obtain ⟨hl, n, hf⟩ := rd_fields Try.underlying49 h
  have hl' : cs.length = 5 := hl.trans (by kernel_rfl)
  obtain ⟨z0, z1, z2, z3, z4, rfl⟩ := cells_5 hl'
  have cc3 : Try.prog.cellsOf 3 = 1 := by kernel_rfl
  have cc47 : Try.prog.cellsOf 47 = 1 := by kernel_rfl
  obtain ⟨e0, he0⟩ := hf 0 _ rfl
  have hc0 : DataW.trod enc Try.prog W base spare held n 3 [z0] = some e0 := by simpa [cc3] using he0
  obtain ⟨b0, hk0, w0⟩ := (rd_int Try.underlying3) H enc W base spare held n [z0] _ hc0
  obtain rfl : z0 = .int .i64 b0 := by injection hk0
  obtain ⟨e1, he1⟩ := hf 1 _ rfl
  have hc1 : DataW.trod enc Try.prog W base spare held n 3 [z1] = some e1 := by simpa [cc3] using he1
  obtain ⟨b1, hk1, w1⟩ := (rd_int Try.underlying3) H enc W base spare held n [z1] _ hc1
  obtain rfl : z1 = .int .i64 b1 := by injection hk1
  obtain ⟨e2, he2⟩ := hf 2 _ rfl
  have hc2 : DataW.trod enc Try.prog W base spare held n 3 [z2] = some e2 := by simpa [cc3] using he2
  obtain ⟨b2, hk2, w2⟩ := (rd_int Try.underlying3) H enc W base spare held n [z2] _ hc2
  obtain rfl : z2 = .int .i64 b2 := by injection hk2
  obtain ⟨e3, he3⟩ := hf 3 _ rfl
  have hc3 : DataW.trod enc Try.prog W base spare held n 3 [z3] = some e3 := by simpa [cc3] using he3
  obtain ⟨b3, hk3, w3⟩ := (rd_int Try.underlying3) H enc W base spare held n [z3] _ hc3
  obtain rfl : z3 = .int .i64 b3 := by injection hk3
  obtain ⟨e4, he4⟩ := hf 4 _ rfl
  have hc4 : DataW.trod enc Try.prog W base spare held n 47 [z4] = some e4 := by simpa [cc47] using he4
  obtain ⟨b4, hk4, w4⟩ := (rd_slice Try.underlying47 (by kernel_rfl) rd_LMark) H enc W base spare held n [z4] _ hc4
  obtain ⟨A4, c4, hz4, l4, g4⟩ := hk4
  obtain rfl : z4 = .slice A4 b4.length c4 := by injection hz4
  exact ⟨b0, b1, b2, b3, b4, A4, c4, rfl, w0, w1, w2, w3, w4, l4, g4⟩
def WF_LItem (x : S_LItem) : Prop := ((Lit.int .i64 x.f0).wf = true) ∧ (x.f1.size ≤ maxLen) ∧ (x.f2.size ≤ maxLen) ∧ ((Lit.int .i64 x.f3).wf = true) ∧ ((Lit.int .i64 x.f4).wf = true)
theorem rd_LItem : Rd Try.prog 136 k_LItem WF_LItem := by
  intro H enc W base spare held fuel cs x h
  obtain ⟨hl, n, hf⟩ := rd_fields Try.underlying136 h
  have hl' : cs.length = 5 := hl.trans (by kernel_rfl)
  obtain ⟨z0, z1, z2, z3, z4, rfl⟩ := cells_5 hl'
  have cc3 : Try.prog.cellsOf 3 = 1 := by kernel_rfl
  have cc9 : Try.prog.cellsOf 9 = 1 := by kernel_rfl
  obtain ⟨e0, he0⟩ := hf 0 _ rfl
  have hc0 : DataW.trod enc Try.prog W base spare held n 3 [z0] = some e0 := by simpa [cc3] using he0
  obtain ⟨b0, hk0, w0⟩ := (rd_int Try.underlying3) H enc W base spare held n [z0] _ hc0
  obtain rfl : z0 = .int .i64 b0 := by injection hk0
  obtain ⟨e1, he1⟩ := hf 1 _ rfl
  have hc1 : DataW.trod enc Try.prog W base spare held n 9 [z1] = some e1 := by simpa [cc9] using he1
  obtain ⟨b1, hk1, w1⟩ := (rd_string Try.underlying9) H enc W base spare held n [z1] _ hc1
  obtain rfl : z1 = .string b1 := by injection hk1
  obtain ⟨e2, he2⟩ := hf 2 _ rfl
  have hc2 : DataW.trod enc Try.prog W base spare held n 9 [z2] = some e2 := by simpa [cc9] using he2
  obtain ⟨b2, hk2, w2⟩ := (rd_string Try.underlying9) H enc W base spare held n [z2] _ hc2
  obtain rfl : z2 = .string b2 := by injection hk2
  obtain ⟨e3, he3⟩ := hf 3 _ rfl
  have hc3 : DataW.trod enc Try.prog W base spare held n 3 [z3] = some e3 := by simpa [cc3] using he3
  obtain ⟨b3, hk3, w3⟩ := (rd_int Try.underlying3) H enc W base spare held n [z3] _ hc3
  obtain rfl : z3 = .int .i64 b3 := by injection hk3
  obtain ⟨e4, he4⟩ := hf 4 _ rfl
  have hc4 : DataW.trod enc Try.prog W base spare held n 3 [z4] = some e4 := by simpa [cc3] using he4
  obtain ⟨b4, hk4, w4⟩ := (rd_int Try.underlying3) H enc W base spare held n [z4] _ hc4
  obtain rfl : z4 = .int .i64 b4 := by injection hk4
  exact ⟨⟨b0, b1, b2, b3, b4⟩, k_LItem_mk W ⟨b0, b1, b2, b3, b4⟩ , ⟨w0, w1, w2, w3, w4⟩⟩
theorem open_LRow {H : Type} {enc : TypeId × Value → H} {W : World} {base : Nat} {spare : Nat → Bool} {held : Bool} {fuel : Nat} {cs : List Value} {x : DataW H × List MemPlace} (h : DataW.trod enc Try.prog W base spare held fuel 56 cs = some x) :
    ∃ (b0 : Int) (b1 : Int) (b2 : List S_LItem) (A2 : Option Addr) (c2 : Nat), cs = [.int .i64 b0, .int .i64 b1, .slice A2 b2.length c2] ∧ ((Lit.int .i64 b0).wf = true) ∧ ((Lit.int .i64 b1).wf = true) ∧ (b2.length ≤ maxLen ∧ ∀ y ∈ b2, WF_LItem y) ∧ b2.length ≤ c2 ∧ Kd.C k_LItem W A2 b2.length b2 := by
  obtain ⟨hl, n, hf⟩ := rd_fields Try.underlying56 h
  have hl' : cs.length = 3 := hl.trans (by kernel_rfl)
  obtain ⟨z0, z1, z2, rfl⟩ := cells_3 hl'
  have cc3 : Try.prog.cellsOf 3 = 1 := by kernel_rfl
  have cc54 : Try.prog.cellsOf 54 = 1 := by kernel_rfl
  obtain ⟨e0, he0⟩ := hf 0 _ rfl
  have hc0 : DataW.trod enc Try.prog W base spare held n 3 [z0] = some e0 := by simpa [cc3] using he0
  obtain ⟨b0, hk0, w0⟩ := (rd_int Try.underlying3) H enc W base spare held n [z0] _ hc0
  obtain rfl : z0 = .int .i64 b0 := by injection hk0
  obtain ⟨e1, he1⟩ := hf 1 _ rfl
  have hc1 : DataW.trod enc Try.prog W base spare held n 3 [z1] = some e1 := by simpa [cc3] using he1
  obtain ⟨b1, hk1, w1⟩ := (rd_int Try.underlying3) H enc W base spare held n [z1] _ hc1
  obtain rfl : z1 = .int .i64 b1 := by injection hk1
  obtain ⟨e2, he2⟩ := hf 2 _ rfl
  have hc2 : DataW.trod enc Try.prog W base spare held n 54 [z2] = some e2 := by simpa [cc54] using he2
  obtain ⟨b2, hk2, w2⟩ := (rd_slice Try.underlying54 (by kernel_rfl) rd_LItem) H enc W base spare held n [z2] _ hc2
  obtain ⟨A2, c2, hz2, l2, g2⟩ := hk2
  obtain rfl : z2 = .slice A2 b2.length c2 := by injection hz2
  exact ⟨b0, b1, b2, A2, c2, rfl, w0, w1, w2, l2, g2⟩
end Go.Proofs.Ythmjhhkheohgfaa.R

/- Small words for plain proofs: what comes to its answer at enough rounds, one step at a time; whole numbers of 64 bits. No condition. -/
namespace Go.Proofs.Ythmjhhkheohgfaa.L
open Go.RowKit Go.Proofs.YthmjhhkheohgfaaW.PrintWords Go.Proofs.YthmjhhkheohgfaaW.PrintLast Go.Proofs.YthmjhhkheohgfaaW.PrintMore

theorem ev_pos {α : Type} {c : Prop} [Decidable c] {f g : Nat → Option α} {r : α} (h : c) (k : Ev f r) : Ev (fun n => if c then f n else g n) r := by
  simpa only [if_pos h] using k
theorem ev_neg {α : Type} {c : Prop} [Decidable c] {f g : Nat → Option α} {r : α} (h : ¬ c) (k : Ev g r) : Ev (fun n => if c then f n else g n) r := by
  simpa only [if_neg h] using k
theorem ev_ite {α : Type} {c : Prop} [Decidable c] {f g : Nat → Option α} {r : α} (h : c → Ev f r) (k : ¬ c → Ev g r) : Ev (fun n => if c then f n else g n) r := by
  by_cases hc : c
  · exact ev_pos hc (h hc)
  · exact ev_neg hc (k hc)
theorem ev_some {α β : Type} {g : Option α} {f : Nat → α → Option β} {a : α} {r : β} (h : g = some a) (k : Ev (fun n => f n a) r) : Ev (fun n => g.bind (f n)) r := by
  subst h
  exact k
theorem ev_bind {α β : Type} {g : Nat → Option α} {f : Nat → α → Option β} {a : α} {r : β} (h : Ev g a) (k : Ev (fun n => f n a) r) : Ev (fun n => (g n).bind (f n)) r := Ev.bind h k
/-- one round more -/
theorem ev_step {α : Type} {g f : Nat → Option α} {r : α} (h : ∀ k, g (k + 1) = f k) (k : Ev f r) : Ev g r := Ev.step h k
theorem ev_now {α : Type} {r r' : α} (h : r = r') : Ev (fun _ => some r) r' := h ▸ Ev.now r

theorem w64 {x : Int} (h0 : -9223372036854775808 ≤ x) (h1 : x ≤ 9223372036854775807) : wrap64 x = x := by
  unfold wrap64
  omega
end Go.Proofs.Ythmjhhkheohgfaa.L

/- The plain side of numbers within bounds, of right texts, of commands and answers: program and reference come to one answer. Condition: texts of at most 2^63 - 1 bytes, as any text that is read. -/
namespace Go.Proofs.Ythmjhhkheohgfaa.L
open Go.RowKit Go.Proofs.YthmjhhkheohgfaaW.PrintWords Go.Proofs.YthmjhhkheohgfaaW.PrintLast Go.Proofs.YthmjhhkheohgfaaW.PrintMore Go.Proofs.Ythmjhhkheohgfaa.Q

/-- is a number within bounds -/
def inb (x a b : Int) : Bool := decide (a ≤ x) && decide (x ≤ b)
theorem specIn (x a b : Int) : spec_l1In.f x a b = some (inb x a b) := by
  unfold spec_l1In.f inb
  by_cases h : x ≥ a
  · rw [if_pos h]; simp [show a ≤ x from h]
  · rw [if_neg h]; simp [show ¬ a ≤ x from h]
theorem implIn (x a b : Int) : impl_within.f x a b = some (inb x a b) := by
  unfold impl_within.f inb
  by_cases h : x ≥ a
  · rw [if_pos h]; simp [show a ≤ x from h]
  · rw [if_neg h]; simp [show ¬ a ≤ x from h]
/-- may a byte stand in a text -/
def okB (b : Int) : Prop := 97 ≤ b ∧ b ≤ 122 ∨ 48 ≤ b ∧ b ≤ 57 ∨ b = 32
instance (b : Int) : Decidable (okB b) := by unfold okB; infer_instance
/-- what SetupOk comes to -/
def setupOk (r w l k : Int) : Bool := inb r 1 4 && (inb w 1 5 && (inb l 1 8 && inb k 0 60))
theorem so_and {c : Bool} {g : Option Bool} {d : Bool} (h : c = true → g = some d) : (if c = true then g else some false) = some (c && d) := by
  cases c with
  | false => rfl
  | true => simpa using h rfl
theorem specSetup (r w l k : Int) : spec_SetupOk.f r w l k = some (setupOk r w l k) := by
  unfold spec_SetupOk.f setupOk
  simp only [specIn, Option.bind_some]
  exact so_and fun _ => so_and fun _ => so_and fun _ => rfl
theorem implSetup (r w l k : Int) : impl_SetupOk.f r w l k = some (setupOk r w l k) := by
  unfold impl_SetupOk.f setupOk
  simp only [implIn, Option.bind_some]
  exact so_and fun _ => so_and fun _ => so_and fun _ => rfl
end Go.Proofs.Ythmjhhkheohgfaa.L

/- The plain side of KeepNew: program and reference come to one answer; it is one of five, and the laws' words are reckoned on each. -/
namespace Go.Proofs.Ythmjhhkheohgfaa.L
open Go.RowKit Go.Proofs.YthmjhhkheohgfaaW.PrintWords Go.Proofs.YthmjhhkheohgfaaW.PrintLast Go.Proofs.YthmjhhkheohgfaaW.PrintMore Go.Proofs.Ythmjhhkheohgfaa.Q

/-- what KeepNew comes to -/
def keepC (n : Nat) : List S_Row × List S_Maker × List S_Group × Int × List Int × List S_Answer :=
  if n = 0 then ([], [], [], 0, [], []) else (List.replicate n z_Row, [], [⟨0, [], [], List.replicate n 0⟩, ⟨0, [], [], List.replicate n 0⟩], 0, List.replicate 4 0, List.replicate 4 z_Answer)
theorem w01 : wrap64 ((0 : Int) + 1) = 1 := w64 (by decide) (by decide)
theorem w12 : wrap64 ((1 : Int) + 1) = 2 := w64 (by decide) (by decide)
theorem specGroupNew (a : Int) (h : inb a 1 4 = true) : spec_GroupNew.f a = some (0, [], [], List.replicate a.toNat 0) := by
  have h' : 1 ≤ a ∧ a ≤ 4 := by simpa [inb] using h
  unfold spec_GroupNew.f
  rw [specIn, h]
  rw [Option.bind_some, if_pos rfl, if_pos (by omega), if_pos (by omega)]
theorem implGroupNew (a : Int) (h : inb a 1 4 = true) : impl_GroupNew.f a = some (0, [], [], List.replicate a.toNat 0) := by
  have h' : 1 ≤ a ∧ a ≤ 4 := by simpa [inb] using h
  unfold impl_GroupNew.f
  rw [implIn, h]
  rw [Option.bind_some, if_pos rfl, if_pos (by omega), if_pos (by omega)]
theorem setup_in {a b c d : Int} (h : setupOk a b c d = true) : inb a 1 4 = true := by
  unfold setupOk at h
  revert h
  cases inb a 1 4 <;> simp
theorem specKeepNew (a b c d : Int) : Ev (fun k => spec_KeepNew.f k a b c d) (keepC (if setupOk a b c d = true then a.toNat else 0)) := by
  unfold spec_KeepNew.f
  refine ev_some (specSetup a b c d) (ev_ite (fun h => ?_) (fun h => ?_))
  · have hi := setup_in h
    have h' : 1 ≤ a ∧ a ≤ 4 := by simpa [inb] using hi
    rw [if_pos h]
    refine ev_pos (by omega) (ev_pos (by omega) (ev_pos (by decide) (ev_pos (by decide) ?_)))
    refine ev_step (fun _ => rfl) (ev_pos (by decide) (ev_some (specGroupNew a hi) (ev_pos (by simp) ?_)))
    refine ev_step (fun _ => rfl) (ev_pos (by rw [w01]; decide) (ev_some (specGroupNew a hi) (ev_pos (by simp) ?_)))
    refine ev_step (fun _ => rfl) (ev_neg (by rw [w01, w12]; decide) (ev_now ?_))
    simp [keepC, show ¬ a.toNat = 0 by omega]
  · rw [if_neg h]
    exact ev_now rfl
theorem implKeepNew (a b c d : Int) : Ev (fun k => impl_KeepNew.f k a b c d) (keepC (if setupOk a b c d = true then a.toNat else 0)) := by
  unfold impl_KeepNew.f
  refine ev_some (implSetup a b c d) (ev_ite (fun h => ?_) (fun h => ?_))
  · have hi := setup_in h
    have h' : 1 ≤ a ∧ a ≤ 4 := by simpa [inb] using hi
    rw [if_pos h]
    refine ev_pos (by omega) (ev_pos (by omega) (ev_pos (by decide) (ev_pos (by decide) ?_)))
    refine ev_step (fun _ => rfl) (ev_pos (by decide) (ev_some (implGroupNew a hi) (ev_pos (by simp) ?_)))
    refine ev_step (fun _ => rfl) (ev_pos (by rw [w01]; decide) (ev_some (implGroupNew a hi) (ev_pos (by simp) ?_)))
    refine ev_step (fun _ => rfl) (ev_neg (by rw [w01, w12]; decide) (ev_now ?_))
    simp [keepC, show ¬ a.toNat = 0 by omega]
  · rw [if_neg h]
    exact ev_now rfl
/-- the laws' words on one such answer, reckoned -/
def runK (z : List S_Row × List S_Maker × List S_Group × Int × List Int × List S_Answer) : Bool :=
  match laws_eqKeep.f 40 z.1 z.2.1 z.2.2.1 z.2.2.2.1 z.2.2.2.2.1 z.2.2.2.2.2 z.1 z.2.1 z.2.2.1 z.2.2.2.1 z.2.2.2.2.1 z.2.2.2.2.2, laws_markKeep.f 40 z.1 z.2.1 z.2.2.1 z.2.2.2.2.1 z.2.2.2.2.2 1 with
  | some e, some m => e && (match laws_heldKeep.f 40 m.2.1 m.2.2.1 m.2.2.2.1 z.2.2.2.1 m.2.2.2.2.1 m.2.2.2.2.2 1 with
    | some q => decide (0 ≤ q) && decide (q = m.1)
    | none => false)
  | _, _ => false
theorem runK_0 : runK (keepC 0) = true := by kernel_rfl
theorem runK_1 : runK (keepC 1) = true := by kernel_rfl
theorem runK_2 : runK (keepC 2) = true := by kernel_rfl
theorem runK_3 : runK (keepC 3) = true := by kernel_rfl
theorem runK_4 : runK (keepC 4) = true := by kernel_rfl
theorem runK_all (n : Nat) (h : n ≤ 4) : runK (keepC n) = true := by
  match n, h with
  | 0, _ => exact runK_0
  | 1, _ => exact runK_1
  | 2, _ => exact runK_2
  | 3, _ => exact runK_3
  | 4, _ => exact runK_4
theorem runK_ev {z : List S_Row × List S_Maker × List S_Group × Int × List Int × List S_Answer} (h : runK z = true) :
    ∃ m q, Ev (fun k => laws_eqKeep.f k z.1 z.2.1 z.2.2.1 z.2.2.2.1 z.2.2.2.2.1 z.2.2.2.2.2 z.1 z.2.1 z.2.2.1 z.2.2.2.1 z.2.2.2.2.1 z.2.2.2.2.2) true ∧ Ev (fun k => laws_markKeep.f k z.1 z.2.1 z.2.2.1 z.2.2.2.2.1 z.2.2.2.2.2 1) m ∧
      Ev (fun k => laws_heldKeep.f k m.2.1 m.2.2.1 m.2.2.2.1 z.2.2.2.1 m.2.2.2.2.1 m.2.2.2.2.2 1) q ∧ ¬ q < 0 ∧ q = m.1 := by
  unfold runK at h
  split at h
  · rename_i e m he hm
    rw [Bool.and_eq_true] at h
    obtain ⟨h1, h2⟩ := h
    subst h1
    split at h2
    · rename_i q hq
      rw [Bool.and_eq_true] at h2
      refine ⟨m, q, Ev.of (fun k => laws_eqKeep.mono _ _ _ _ _ _ _ _ _ _ _ _ k) he, Ev.of (fun k => laws_markKeep.mono _ _ _ _ _ _ k) hm, Ev.of (fun k => laws_heldKeep.mono _ _ _ _ _ _ _ k) hq, Int.not_lt.2 (of_decide_eq_true h2.1), of_decide_eq_true h2.2⟩
    · exact absurd h2 (by decide)
  · exact absurd h (by decide)
end Go.Proofs.Ythmjhhkheohgfaa.L

/- FnExactKeepNew as a plain statement: proved for all arguments. -/
namespace Go.Proofs.Ythmjhhkheohgfaa.Pure
open Go.RowKit Go.Proofs.YthmjhhkheohgfaaW.PrintWords Go.Proofs.YthmjhhkheohgfaaW.PrintLast Go.Proofs.YthmjhhkheohgfaaW.PrintMore Go.Proofs.Ythmjhhkheohgfaa.Q Go.Proofs.Ythmjhhkheohgfaa.L Go.Proofs.Ythmjhhkheohgfaa.R

theorem FnExactKeepNew (a b c d : Int) (_ : (Lit.int .i64 a).wf = true) (_ : (Lit.int .i64 b).wf = true) (_ : (Lit.int .i64 c).wf = true) (_ : (Lit.int .i64 d).wf = true) : ∃ k, laws_FnExactKeepNew.f k a b c d = some true := by
  refine Ev.rounds (g := fun k => laws_FnExactKeepNew.f k a b c d) ?_
  have hn : (if setupOk a b c d = true then a.toNat else 0) ≤ 4 := by
    split
    · rename_i h
      have h' : 1 ≤ a ∧ a ≤ 4 := by simpa [inb] using setup_in h
      omega
    · omega
  have e1 := specKeepNew a b c d
  have e2 := implKeepNew a b c d
  have e3 := runK_all _ hn
  generalize keepC (if setupOk a b c d = true then a.toNat else 0) = z at e1 e2 e3
  obtain ⟨m, q, r1, r2, r3, r4, r5⟩ := runK_ev e3
  unfold laws_FnExactKeepNew.f
  exact ev_some (show laws_toSetup.f a b c d = some (a, b, c, d) from rfl) (ev_bind e1 (ev_bind e2 (ev_bind r1 (ev_bind r2 (ev_bind r3 (ev_pos ⟨rfl, r4, r5⟩ (ev_now rfl)))))))
end Go.Proofs.Ythmjhhkheohgfaa.Pure

/- The law FnExactKeepNew: its statement holds, for all arguments. Made by a program of ours out of the plain theorem and the walk. No condition. -/
namespace Go.Proofs.Ythmjhhkheohgfaa.fnExactKeepNew
open Go.ChangeShapes Go.WideShapes Go.ChangeAt Go.RowKit Go.Proofs.YthmjhhkheohgfaaW.PrintWords Go.Proofs.Ythmjhhkheohgfaa.Q Go.Proofs.Ythmjhhkheohgfaa.R
open Go.ChangeMaps (open_string shut_string)
set_option linter.unusedVariables false
theorem own : ownKnob Try.prog.godebug = none := by kernel_rfl
theorem laidOut : laidOutB Try.prog = true := by kernel_rfl
set_option maxRecDepth 100000 in
theorem lifted (os : Os) (started : os.Started) (H : Type) (enc : TypeId × Value → H) :
    ReturnsInHanded {} Try.checked os 8 .any (Rows.fnExactKeepNewSpec.pre6 enc Try.prog Try.f8 Rows.fnExactKeepNewRow.domain false) (Rows.fnExactKeepNewSpec.post enc Try.prog Try.f8 false true false false) := by
  refine returnsInHanded_of_change_sized (C := Try.checked) own started (by kernel_rfl) Try.func8
    (ChangeSpec.witness6 (enc := enc) (C := Try.checked) false ⟨#[], #[.agg #[.int .i64 0, .int .i64 0, .int .i64 0, .int .i64 0]], []⟩ 8 (by kernel_rfl) (by kernel_rfl) (by kernel_rfl) (by kernel_rfl)) ?_
  intro W base args ds gs before hval0 hW hcnd hsz0 _
  have hval : ∀ (j : Nat) t v, Try.f8.params[j]? = some t → args[j]? = some v → Value.okWide Try.prog W .any base t v := hval0
  have hW' := hW
  obtain ⟨p, q, hA0, hV, rfl, hfz, hnd⟩ := hW
  have hA : DataW.TrodAll enc Try.prog W 0 (fun _ => true) true Try.f8.params.toList args.toList ds p := hA0
  rw [Try.params8] at hA hval
  obtain ⟨v0, vs0, d0, ds0, p0, q0, hargs, rfl, rfl, h0, r0⟩ := trodAll_cons hA
  obtain ⟨rfl, rfl, rfl⟩ := trodAll_nil r0
  obtain rfl : args = #[v0] := by cases args; simp_all
  obtain ⟨rfl, rfl⟩ := trodVars_none hV
  have k0 := h0
  have lt0 : ∀ x ∈ p0, x.block < W.heap.size := by obtain ⟨m, hm⟩ := k0; exact DataW.trod_lt m _ _ _ hm
  obtain ⟨cs0, rfl, hsz0⟩ := okWide_struct Try.underlying74 (hval 0 74 v0 rfl rfl)
  obtain ⟨fuel0, hf0⟩ := h0
  obtain ⟨a0_0, a0_1, a0_2, a0_3, hz0, w0_0, w0_1, w0_2, w0_3⟩ := open_LSetup (cs := cs0.toList) hf0
  obtain rfl : cs0 = #[.int .i64 a0_0, .int .i64 a0_1, .int .i64 a0_2, .int .i64 a0_3] := by apply Array.toList_inj.mp; exact hz0
  clear hA0 hval0 hsz0
  obtain ⟨k, hk⟩ := Pure.FnExactKeepNew a0_0 a0_1 a0_2 a0_3 w0_0 w0_1 w0_2 w0_3
  refine (laws_FnExactKeepNew.calls (w := W)  (h := hk)).mono fun e W' he => ?_
  obtain ⟨rfl, bel0⟩ := he
  have bel : Below W.heap.size W W' := by first | exact bel0 | exact Drawn0.below bel0
  exact ⟨_, rfl, _, _, _, [], _, [], hW', trodAll_mk1 (shut_bool Try.underlying4 _), (trodAll_cons_mk (Below.trod laidOut (by kernel_rfl) (of_decide_eq_true (by kernel_rfl)) k0 bel lt0) trodAll_mk0), rfl, bel.frame _, fun h => by cases h⟩
theorem over : Rows.fnExactKeepNewRow.holds Try.pinned (OpenSpec.ofChange Rows.fnExactKeepNewSpec) :=
  OpenClaim.holds_of_wide 8 Try.f8 rfl rfl rfl rfl rfl rfl rfl ⟨rfl, rfl, rfl, rfl, rfl⟩ rfl rfl rfl rfl rfl (by kernel_rfl) Try.func8 (by kernel_rfl)
    (of_decide_eq_true (by kernel_rfl)) (by unfold Func.isWrapper; first | (rw [if_pos (by decide +kernel)]; kernel_rfl) | (rw [if_neg (by decide +kernel)]; exact ⟨rfl, rfl⟩))
    (fun os started H enc _ => lifted os started H enc)
end Go.Proofs.Ythmjhhkheohgfaa.fnExactKeepNew
namespace Go.Proofs.Ythmjhhkheohgfaa
/-- The row, under a short name, for the claim. -/
theorem fnExactKeepNew_holds : Rows.FnExactKeepNewSaid := fnExactKeepNew.over
#print axioms fnExactKeepNew_holds
end Go.Proofs.Ythmjhhkheohgfaa

