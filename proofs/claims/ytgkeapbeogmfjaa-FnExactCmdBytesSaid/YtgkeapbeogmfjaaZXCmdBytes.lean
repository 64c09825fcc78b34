/- The law FnExactCmdBytes holds, for all arguments: its row, and behind it the plain side of what the program and the reference compute. Conditions: those that each theorem states; the row has none. -/
import Derived.Test.YtgkeapbeogmfjaaRows
import Derived.Deep.Slices
import Derived.ChangeArms
import Derived.WideShapes
import Derived.WalkKit
import Derived.ProofKit
import Derived.OpenShut
import Derived.ShutString
import Derived.ChangeOld
import Derived.Below
import Derived.SizedLaws
import Derived.Test.YtgkeapbeogmfjaaZXCmdBytes0
import Derived.Test.YtgkeapbeogmfjaaZXCmdBytesa
import Derived.Test.YtgkeapbeogmfjaaZXCmdBytesb
import Derived.Test.YtgkeapbeogmfjaaZXCmdBytesc
/- What is read as data is of a printed kind: whole numbers, texts, structs of one-cell fields, slices. For the laws' rows. No condition. -/
namespace Go.Proofs.Ytgkeapbeogmfjaa.R
open Go.RowKit Go.Proofs.YtgkeapbeogmfjaaW.PrintWords Go.WideShapes

/-- Whatever is read as data of type t has cells that are of kind d. -/
def Rd {α : Type} (P : Program) (t : TypeId) (d : Kd α) (wf : α → Prop) : Prop :=
  ∀ (H : Type) (enc : TypeId × Value → H) (W : World) (base : Nat) (spare : Nat → Bool) (held : Bool) (fuel : Nat) (cs : List Value) (x : DataW H × List MemPlace),
    DataW.trod enc P W base spare held fuel t cs = some x → ∃ a, d.K W a cs ∧ wf a
theorem rd_int {P : Program} {t : TypeId} {k : IntKind} (ht : P.underlying t = some (.int k)) : Rd P t (Kd.int k) (fun n => (Lit.int k n).wf = true) := by
  intro H enc W base spare held fuel cs x h
  obtain ⟨n, rfl, _, hw⟩ := DataW.trod_int ht h
  exact ⟨n, rfl, hw⟩
theorem rd_string {P : Program} {t : TypeId} (ht : P.underlying t = some .string) : Rd P t Kd.string (fun s => s.size ≤ maxLen) := by
  intro H enc W base spare held fuel cs x h
  obtain ⟨s, rfl, _, hw⟩ := DataW.trod_string ht h
  exact ⟨s, rfl, hw⟩
theorem rd_slice {α : Type} {P : Program} {t e : TypeId} {d : Kd α} {wf : α → Prop} (ht : P.underlying t = some (.slice e)) (hs : P.cellsOf e = d.sz) (hr : Rd P e d wf) :
    Rd P t (Kd.slice e d) (fun xs => xs.length ≤ maxLen ∧ ∀ x ∈ xs, wf x) := by
  intro H enc W base spare held fuel cs x h
  rcases Go.Deep.open_slice ht h with ⟨rfl, _⟩ | ⟨a, len, cap, m, n, D, Pl, rfl, hb, hl, hm, hmm, _, hx⟩
  · exact ⟨[], ⟨none, 0, rfl, Nat.le_refl _, rfl, by simp, fun h0 => absurd h0 (by simp)⟩, by simp, by simp⟩
  · have hml : len ≤ m := by rw [hmm]; split <;> omega
    have key : ∀ i, i < len → ∃ p : α, wf p ∧ ∃ c, c.length = d.sz ∧ d.K W p c ∧ ∀ q u, c[q]? = some u → W.cell? (a.add (i * d.sz + q)) = some u := by
      intro i hi
      obtain ⟨cs', h1, h2⟩ := hx i (by omega)
      obtain ⟨p, hp, hw⟩ := hr H enc W base spare held n cs' _ h2
      obtain ⟨_, hlen, hc⟩ := World.cells?_some h1
      rw [hs] at hlen hc
      refine ⟨p, hw, cs', hlen, hp, fun q u hq => ?_⟩
      have hq' : q < d.sz := by
        have := (List.getElem?_eq_some_iff.1 hq).1
        omega
      rw [← hq, ← hc q hq', Go.Deep.add_add]
    have key2 : ∃ f : Nat → Option α, ∀ i, i < len → ∃ p, f i = some p ∧ wf p ∧ ∃ c, c.length = d.sz ∧ d.K W p c ∧ ∀ q u, c[q]? = some u → W.cell? (a.add (i * d.sz + q)) = some u := by
      classical
      refine ⟨fun i => if hi : i < len then some (Classical.choose (key i hi)) else none, fun i hi => ⟨Classical.choose (key i hi), by simp [hi], Classical.choose_spec (key i hi)⟩⟩
    obtain ⟨f, hf⟩ := key2
    have hlen : ∀ k, k ≤ len → ((List.range k).filterMap f).length = k ∧ ∀ j, j < k → ((List.range k).filterMap f)[j]? = f j := by
      intro k
      induction k with
      | zero => intro _; exact ⟨rfl, fun j hj => absurd hj (by omega)⟩
      | succ k ih =>
        intro hk
        obtain ⟨i1, i2⟩ := ih (by omega)
        obtain ⟨p, hp, _⟩ := hf k (by omega)
        have e : (List.range (k + 1)).filterMap f = (List.range k).filterMap f ++ [p] := by rw [List.range_succ, List.filterMap_append]; simp [hp]
        refine ⟨by rw [e]; simp [i1], fun j hj => ?_⟩
        rw [e]
        rcases Nat.lt_or_ge j k with h1 | h1
        · rw [List.getElem?_append_left (by omega)]; exact i2 j h1
        · obtain rfl : j = k := by omega
          rw [List.getElem?_append_right (by omega), i1]; simp [hp]
    obtain ⟨i1, i2⟩ := hlen len (Nat.le_refl _)
    refine ⟨(List.range len).filterMap f, ⟨some a, cap, by rw [i1], by rw [i1]; exact hl, rfl, by rw [i1]; simp only [maxLen] at hm; omega, fun _ => ⟨a, rfl, fun j p hj => ?_⟩⟩, by rw [i1]; omega, fun p hp => ?_⟩
    · have hj' : j < len := by
        have := (List.getElem?_eq_some_iff.1 hj).1
        omega
      obtain ⟨p', hp', _, hc⟩ := hf j hj'
      rw [i2 j hj', hp'] at hj
      cases hj
      exact hc
    · obtain ⟨i, hi, hfi⟩ := List.mem_filterMap.1 hp
      obtain ⟨p', hp', hw, _⟩ := hf i (by simpa using hi)
      rw [hp'] at hfi
      cases hfi
      exact hw
/-- The fields of a struct, each of one cell, cell by cell. -/
theorem rd_fields {H : Type} {enc : TypeId × Value → H} {P : Program} {W : World} {base : Nat} {spare : Nat → Bool} {held : Bool} {fuel : Nat} {t : TypeId} {fs : Array Field} {cs : List Value} {x : DataW H × List MemPlace}
    (ht : P.underlying t = some (.struct fs)) (h : DataW.trod enc P W base spare held fuel t cs = some x) : cs.length = P.cellsOf t ∧ ∃ n, ∀ (i : Nat) (f : Field), fs[i]? = some f → ∃ y, DataW.trod enc P W base spare held n f.type ((cs.drop f.offset).take (P.cellsOf f.type)) = some y := by
  obtain ⟨xs, n, _, _, hl, hlen, hf⟩ := DataW.trod_struct ht h
  refine ⟨hl, n, fun i f hi => ?_⟩
  have hi' : i < xs.length := by
    rw [hlen]
    exact (Array.getElem?_eq_some_iff.1 hi).1
  exact ⟨xs[i], by rw [hf i f hi, List.getElem?_eq_getElem hi']⟩
end Go.Proofs.Ytgkeapbeogmfjaa.R

/- How the laws' arguments of this seat are opened: what is read as data has the cells that the walks want. No condition. -/
namespace Go.Proofs.Ytgkeapbeogmfjaa.R
open Go.RowKit Go.Proofs.YtgkeapbeogmfjaaW.PrintWords Go.WideShapes Go.Proofs.Ytgkeapbeogmfjaa.Q
set_option linter.unusedVariables false
theorem cells_2 {cs : List Value} (h : cs.length = 2) : ∃ z0 z1, cs = [z0, z1] := by
  match cs, h with
  | [y0, y1], _ => exact ⟨y0, y1, rfl⟩
theorem cells_4 {cs : List Value} (h : cs.length = 4) : ∃ z0 z1 z2 z3, cs = [z0, z1, z2, z3] := by
  match cs, h with
  | [y0, y1, y2, y3], _ => exact ⟨y0, y1, y2, y3, rfl⟩
theorem cells_5 {cs : List Value} (h : cs.length = 5) : ∃ z0 z1 z2 z3 z4, cs = [z0, z1, z2, z3, z4] := by
  match cs, h with
  | [y0, y1, y2, y3, y4], _ => exact ⟨y0, y1, y2, y3, y4, rfl⟩
theorem cells_8 {cs : List Value} (h : cs.length = 8) : ∃ z0 z1 z2 z3 z4 z5 z6 z7, cs = [z0, z1, z2, z3, z4, z5, z6, z7] := by
  match cs, h with
  | [y0, y1, y2, y3, y4, y5, y6, y7], _ => exact ⟨y0, y1, y2, y3, y4, y5, y6, y7, rfl⟩
theorem open_LGroup {H : Type} {enc : TypeId × Value → H} {W : World} {base : Nat} {spare : Nat → Bool} {held : Bool} {fuel : Nat} {cs : List Value} {x : DataW H × List MemPlace} (h : DataW.trod enc Try.prog W base spare held fuel 24 cs = some x) :
    ∃ (b0 : Int) (b1 : List Int) (b2 : List Int) (b3 : List Int) (A1 : Option Addr) (c1 : Nat) (A2 : Option Addr) (c2 : Nat) (A3 : Option Addr) (c3 : Nat), cs = [.int .i64 b0, .slice A1 b1.length c1, .slice A2 b2.length c2, .slice A3 b3.length c3] ∧ ((Lit.int .i64 b0).wf = true) ∧ (b1.length ≤ maxLen ∧ ∀ y ∈ b1, (Lit.int .i64 y).wf = true) ∧ (b2.length ≤ maxLen ∧ ∀ y ∈ b2, (Lit.int .i64 y).wf = true) ∧ (b3.length ≤ maxLen ∧ ∀ y ∈ b3, (Lit.int .i64 y).wf = true) ∧ b1.length ≤ c1 ∧ Kd.C (Kd.int .i64) W A1 b1.length b1 ∧ b2.length ≤ c2 ∧ Kd.C (Kd.int .i64) W A2 b2.length b2 ∧ b3.length ≤ c3 ∧ Kd.C (Kd.int .i64) W A3 b3.length b3 := by
  obtain ⟨hl, n, hf⟩ := rd_fields Try.underlying24 h
  have hl' : cs.length = 4 := hl.trans (by kernel_rfl)
  obtain ⟨z0, z1, z2, z3, rfl⟩ := cells_4 hl'
  have cc3 : Try.prog.cellsOf 3 = 1 := by kernel_rfl
  have cc22 : Try.prog.cellsOf 22 = 1 := by kernel_rfl
  obtain ⟨e0, he0⟩ := hf 0 _ rfl
  have hc0 : DataW.trod enc Try.prog W base spare held n 3 [z0] = some e0 := by simpa [cc3] using he0
  obtain ⟨b0, hk0, w0⟩ := (rd_int Try.underlying3) H enc W base spare held n [z0] _ hc0
  obtain rfl : z0 = .int .i64 b0 := by injection hk0
  obtain ⟨e1, he1⟩ := hf 1 _ rfl
  have hc1 : DataW.trod enc Try.prog W base spare held n 22 [z1] = some e1 := by simpa [cc22] using he1
  obtain ⟨b1, hk1, w1⟩ := (rd_slice Try.underlying22 (by kernel_rfl) (rd_int Try.underlying3)) H enc W base spare held n [z1] _ hc1
  obtain ⟨A1, c1, hz1, l1, g1⟩ := hk1
  obtain rfl : z1 = .slice A1 b1.length c1 := by injection hz1
  obtain ⟨e2, he2⟩ := hf 2 _ rfl
  have hc2 : DataW.trod enc Try.prog W base spare held n 22 [z2] = some e2 := by simpa [cc22] using he2
  obtain ⟨b2, hk2, w2⟩ := (rd_slice Try.underlying22 (by kernel_rfl) (rd_int Try.underlying3)) H enc W base spare held n [z2] _ hc2
  obtain ⟨A2, c2, hz2, l2, g2⟩ := hk2
  obtain rfl : z2 = .slice A2 b2.length c2 := by injection hz2
  obtain ⟨e3, he3⟩ := hf 3 _ rfl
  have hc3 : DataW.trod enc Try.prog W base spare held n 22 [z3] = some e3 := by simpa [cc22] using he3
  obtain ⟨b3, hk3, w3⟩ := (rd_slice Try.underlying22 (by kernel_rfl) (rd_int Try.underlying3)) H enc W base spare held n [z3] _ hc3
  obtain ⟨A3, c3, hz3, l3, g3⟩ := hk3
  obtain rfl : z3 = .slice A3 b3.length c3 := by injection hz3
  exact ⟨b0, b1, b2, b3, A1, c1, A2, c2, A3, c3, rfl, w0, w1, w2, w3, l1, g1, l2, g2, l3, g3⟩
def WF_LMark (x : S_LMark) : Prop := ((Lit.int .i64 x.f0).wf = true) ∧ ((Lit.int .i64 x.f1).wf = true)
theorem rd_LMark : Rd Try.prog 154 k_LMark WF_LMark := by
  intro H enc W base spare held fuel cs x h
  obtain ⟨hl, n, hf⟩ := rd_fields Try.underlying154 h
  have hl' : cs.length = 2 := hl.trans (by kernel_rfl)
  obtain ⟨z0, z1, rfl⟩ := cells_2 hl'
  have cc3 : Try.prog.cellsOf 3 = 1 := by kernel_rfl
  obtain ⟨e0, he0⟩ := hf 0 _ rfl
  have hc0 : DataW.trod enc Try.prog W base spare held n 3 [z0] = some e0 := by simpa [cc3] using he0
  obtain ⟨b0, hk0, w0⟩ := (rd_int Try.underlying3) H enc W base spare held n [z0] _ hc0
  obtain rfl : z0 = .int .i64 b0 := by injection hk0
  obtain ⟨e1, he1⟩ := hf 1 _ rfl
  have hc1 : DataW.trod enc Try.prog W base spare held n 3 [z1] = some e1 := by simpa [cc3] using he1
  obtain ⟨b1, hk1, w1⟩ := (rd_int Try.underlying3) H enc W base spare held n [z1] _ hc1
  obtain rfl : z1 = .int .i64 b1 := by injection hk1
  exact ⟨⟨b0, b1⟩, k_LMark_mk W ⟨b0, b1⟩ , ⟨w0, w1⟩⟩
theorem open_LMaker {H : Type} {enc : TypeId × Value → H} {W : World} {base : Nat} {spare : Nat → Bool} {held : Bool} {fuel : Nat} {cs : List Value} {x : DataW H × List MemPlace} (h : DataW.trod enc Try.prog W base spare held fuel 48 cs = some x) :
    ∃ (b0 : Int) (b1 : Int) (b2 : Int) (b3 : Int) (b4 : List S_LMark) (A4 : Option Addr) (c4 : Nat), cs = [.int .i64 b0, .int .i64 b1, .int .i64 b2, .int .i64 b3, .slice A4 b4.length c4] ∧ ((Lit.int .i64 b0).wf = true) ∧ ((Lit.int .i64 b1).wf = true) ∧ ((Lit.int .i64 b2).wf = true) ∧ ((Lit.int .i64 b3).wf = true) ∧ (b4.length ≤ maxLen ∧ ∀ y ∈ b4, WF_LMark y) ∧ b4.length ≤ c4 ∧ Kd.C k_LMark W A4 b4.length b4 := by
  obtain ⟨hl, n, hf⟩ := rd_fields Try.underlying48 h
  have hl' : cs.length = 5 := hl.trans (by kernel_rfl)
  obtain ⟨z0, z1, z2, z3, z4, rfl⟩ := cells_5 hl'
  have cc3 : Try.prog.cellsOf 3 = 1 := by kernel_rfl
  have cc46 : Try.prog.cellsOf 46 = 1 := by kernel_rfl
  obtain ⟨e0, he0⟩ := hf 0 _ rfl
  have hc0 : DataW.trod enc Try.prog W base spare held n 3 [z0] = some e0 := by simpa [cc3] using he0
  obtain ⟨b0, hk0, w0⟩ := (rd_int Try.underlying3) H enc W base spare held n [z0] _ hc0
  obtain rfl : z0 = .int .i64 b0 := by injection hk0
  obtain ⟨e1, he1⟩ := hf 1 _ rfl
  have hc1 : DataW.trod enc Try.prog W base spare held n 3 [z1] = some e1 := by simpa [cc3] using he1
  obtain ⟨b1, hk1, w1⟩ := (rd_int Try.underlying3) H enc W base spare held n [z1] _ hc1
  obtain rfl : z1 = .int .i64 b1 := by injection hk1
  obtain ⟨e2, he2⟩ := hf 2 _ rfl
  have hc2 : DataW.trod enc Try.prog W base spare held n 3 [z2] = some e2 := by simpa [cc3] using he2
  obtain ⟨b2, hk2, w2⟩ := (rd_int Try.underlying3) H enc W base spare held n [z2] _ hc2
  obtain rfl : z2 = .int .i64 b2 := by injection hk2
  obtain ⟨e3, he3⟩ := hf 3 _ rfl
  have hc3 : DataW.trod enc Try.prog W base spare held n 3 [z3] = some e3 := by simpa [cc3] using he3
  obtain ⟨b3, hk3, w3⟩ := (rd_int Try.underlying3) H enc W base spare held n [z3] _ hc3
  obtain rfl : z3 = .int .i64 b3 := by injection hk3
  obtain ⟨e4, he4⟩ := hf 4 _ rfl
  have hc4 : DataW.trod enc Try.prog W base spare held n 46 [z4] = some e4 := by simpa [cc46] using he4
  obtain ⟨b4, hk4, w4⟩ := (rd_slice Try.underlying46 (by kernel_rfl) rd_LMark) H enc W base spare held n [z4] _ hc4
  obtain ⟨A4, c4, hz4, l4, g4⟩ := hk4
  obtain rfl : z4 = .slice A4 b4.length c4 := by injection hz4
  exact ⟨b0, b1, b2, b3, b4, A4, c4, rfl, w0, w1, w2, w3, w4, l4, g4⟩
theorem open_LCmd {H : Type} {enc : TypeId × Value → H} {W : World} {base : Nat} {spare : Nat → Bool} {held : Bool} {fuel : Nat} {cs : List Value} {x : DataW H × List MemPlace} (h : DataW.trod enc Try.prog W base spare held fuel 80 cs = some x) :
    ∃ (b0 : Int) (b1 : Int) (b2 : Int) (b3 : Int) (b4 : Int) (b5 : Int) (b6 : ByteArray) (b7 : ByteArray), cs = [.int .i64 b0, .int .i64 b1, .int .i64 b2, .int .i64 b3, .int .i64 b4, .int .i64 b5, .string b6, .string b7] ∧ ((Lit.int .i64 b0).wf = true) ∧ ((Lit.int .i64 b1).wf = true) ∧ ((Lit.int .i64 b2).wf = true) ∧ ((Lit.int .i64 b3).wf = true) ∧ ((Lit.int .i64 b4).wf = true) ∧ ((Lit.int .i64 b5).wf = true) ∧ (b6.size ≤ maxLen) ∧ (b7.size ≤ maxLen) := by
  obtain ⟨hl, n, hf⟩ := rd_fields Try.underlying80 h
  have hl' : cs.length = 8 := hl.trans (by kernel_rfl)
  obtain ⟨z0, z1, z2, z3, z4, z5, z6, z7, rfl⟩ := cells_8 hl'
  have cc3 : Try.prog.cellsOf 3 = 1 := by kernel_rfl
  have cc9 : Try.prog.cellsOf 9 = 1 := by kernel_rfl
  obtain ⟨e0, he0⟩ := hf 0 _ rfl
  have hc0 : DataW.trod enc Try.prog W base spare held n 3 [z0] = some e0 := by simpa [cc3] using he0
  obtain ⟨b0, hk0, w0⟩ := (rd_int Try.underlying3) H enc W base spare held n [z0] _ hc0
  obtain rfl : z0 = .int .i64 b0 := by injection hk0
  obtain ⟨e1, he1⟩ := hf 1 _ rfl
  have hc1 : DataW.trod enc Try.prog W base spare held n 3 [z1] = some e1 := by simpa [cc3] using he1
  obtain ⟨b1, hk1, w1⟩ := (rd_int Try.underlying3) H enc W base spare held n [z1] _ hc1
  obtain rfl : z1 = .int .i64 b1 := by injection hk1
  obtain ⟨e2, he2⟩ := hf 2 _ rfl
  have hc2 : DataW.trod enc Try.prog W base spare held n 3 [z2] = some e2 := by simpa [cc3] using he2
  obtain ⟨b2, hk2, w2⟩ := (rd_int Try.underlying3) H enc W base spare held n [z2] _ hc2
  obtain rfl : z2 = .int .i64 b2 := by injection hk2
  obtain ⟨e3, he3⟩ := hf 3 _ rfl
  have hc3 : DataW.trod enc Try.prog W base spare held n 3 [z3] = some e3 := by simpa [cc3] using he3
  obtain ⟨b3, hk3, w3⟩ := (rd_int Try.underlying3) H enc W base spare held n [z3] _ hc3
  obtain rfl : z3 = .int .i64 b3 := by injection hk3
  obtain ⟨e4, he4⟩ := hf 4 _ rfl
  have hc4 : DataW.trod enc Try.prog W base spare held n 3 [z4] = some e4 := by simpa [cc3] using he4
  obtain ⟨b4, hk4, w4⟩ := (rd_int Try.underlying3) H enc W base spare held n [z4] _ hc4
  obtain rfl : z4 = .int .i64 b4 := by injection hk4
  obtain ⟨e5, he5⟩ := hf 5 _ rfl
  have hc5 : DataW.trod enc Try.prog W base spare held n 3 [z5] = some e5 := by simpa [cc3] using he5
  obtain ⟨b5, hk5, w5⟩ := (rd_int Try.underlying3) H enc W base spare held n [z5] _ hc5
  obtain rfl : z5 = .int .i64 b5 := by injection hk5
  obtain ⟨e6, he6⟩ := hf 6 _ rfl
  have hc6 : DataW.trod enc Try.prog W base spare held n 9 [z6] = some e6 := by simpa [cc9] using he6
  obtain ⟨b6, hk6, w6⟩ := (rd_string Try.underlying9) H enc W base spare held n [z6] _ hc6
  obtain rfl : z6 = .string b6 := by injection hk6
  obtain ⟨e7, he7⟩ := hf 7 _ rfl
  have hc7 : DataW.trod enc Try.prog W base spare held n 9 [z7] = some e7 := by simpa [cc9] using he7
  obtain ⟨b7, hk7, w7⟩ := (rd_string Try.underlying9) H enc W base spare held n [z7] _ hc7
  obtain rfl : z7 = .string b7 := by injection hk7
  exact ⟨b0, b1, b2, b3, b4, b5, b6, b7, rfl, w0, w1, w2, w3, w4, w5, w6, w7⟩
end Go.Proofs.Ytgkeapbeogmfjaa.R

/- Small words for plain proofs: what comes to its answer at enough rounds, one step at a time; whole numbers of 64 bits. No condition. -/
namespace Go.Proofs.Ytgkeapbeogmfjaa.L
open Go.RowKit Go.Proofs.YtgkeapbeogmfjaaW.PrintWords Go.Proofs.YtgkeapbeogmfjaaW.PrintLast Go.Proofs.YtgkeapbeogmfjaaW.PrintMore

theorem ev_pos {α : Type} {c : Prop} [Decidable c] {f g : Nat → Option α} {r : α} (h : c) (k : Ev f r) : Ev (fun n => if c then f n else g n) r := by
  simpa only [if_pos h] using k
theorem ev_neg {α : Type} {c : Prop} [Decidable c] {f g : Nat → Option α} {r : α} (h : ¬ c) (k : Ev g r) : Ev (fun n => if c then f n else g n) r := by
  simpa only [if_neg h] using k
theorem ev_ite {α : Type} {c : Prop} [Decidable c] {f g : Nat → Option α} {r : α} (h : c → Ev f r) (k : ¬ c → Ev g r) : Ev (fun n => if c then f n else g n) r := by
  by_cases hc : c
  · exact ev_pos hc (h hc)
  · exact ev_neg hc (k hc)
theorem ev_some {α β : Type} {g : Option α} {f : Nat → α → Option β} {a : α} {r : β} (h : g = some a) (k : Ev (fun n => f n a) r) : Ev (fun n => g.bind (f n)) r := by
  subst h
  exact k
theorem ev_bind {α β : Type} {g : Nat → Option α} {f : Nat → α → Option β} {a : α} {r : β} (h : Ev g a) (k : Ev (fun n => f n a) r) : Ev (fun n => (g n).bind (f n)) r := Ev.bind h k
/-- one round more -/
theorem ev_step {α : Type} {g f : Nat → Option α} {r : α} (h : ∀ k, g (k + 1) = f k) (k : Ev f r) : Ev g r := Ev.step h k
theorem ev_eq {α : Type} {g : Nat → Option α} {r r' : α} (h : r = r') (k : Ev g r) : Ev g r' := h ▸ k
theorem ev_now {α : Type} {r r' : α} (h : r = r') : Ev (fun _ => some r) r' := h ▸ Ev.now r

theorem wf_i64 {x : Int} (h : (Lit.int .i64 x).wf = true) : -9223372036854775808 ≤ x ∧ x ≤ 9223372036854775807 := by
  simp [Lit.wf, IntKind.min, IntKind.max, IntKind.bits, IntKind.signed] at h
  exact h
theorem wf_u8 {x : Int} (h : (Lit.int .u8 x).wf = true) : 0 ≤ x ∧ x ≤ 255 := by
  simp [Lit.wf, IntKind.min, IntKind.max, IntKind.bits, IntKind.signed] at h
  exact h
theorem w64 {x : Int} (h0 : -9223372036854775808 ≤ x) (h1 : x ≤ 9223372036854775807) : wrap64 x = x := by
  unfold wrap64
  omega
theorem rd_eq (xs : List Int) (i : Nat) (h : i < xs.length) : rd xs (i : Int) = xs[i] := by
  simp [rd, List.getD_eq_getElem?_getD, h]
end Go.Proofs.Ytgkeapbeogmfjaa.L

/- The plain side of numbers and texts as bytes: what the program's and the reference's PutNum, GetNum, PutText, GetText come to, and that the two are one. Condition: lists of bytes of at most 2^20 elements. -/
namespace Go.Proofs.Ytgkeapbeogmfjaa.L
open Go.RowKit Go.Proofs.YtgkeapbeogmfjaaW.PrintWords Go.Proofs.YtgkeapbeogmfjaaW.PrintLast Go.Proofs.YtgkeapbeogmfjaaW.PrintMore Go.Proofs.Ytgkeapbeogmfjaa.Q

/-- the bytes of a number, d + 1 of them at the most -/
def enc : Nat → Int → List Int
  | 0, x => [x % 256]
  | d + 1, x => if x > 127 then (x % 128 + 128) :: enc d (x / 128) else [x % 256]
theorem enc_len (d : Nat) (x : Int) : (enc d x).length ≤ d + 1 := by
  induction d generalizing x with
  | zero => simp [enc]
  | succ d ih =>
    unfold enc
    split
    · have := ih (x / 128); simp only [List.length_cons]; omega
    · simp

theorem and127 (x : Int) (h0 : 0 ≤ x) (h1 : x < 4611686018427387904) : Go.bits .and .i64 x 127 = x % 128 :=
  bits_mask .i64 62 (by decide) (fun n a b => by rw [IntKind.wrap_i64]; omega) 7 (by decide) x h0 h1
theorem and127b (x : Int) (h0 : 0 ≤ x) (h1 : x ≤ 255) : Go.bits .and .u8 x 127 = x % 128 :=
  bits_mask .u8 8 (by decide) wraps_u8 7 (by decide) x h0 (by omega)
theorem or128 (x : Int) (h0 : 0 ≤ x) (h1 : x < 128) : Go.bits .or .u8 x 128 = x + 128 := by
  have h := bits_join .u8 8 (by decide) wraps_u8 7 128 x (by decide) (by decide) (by decide) h0 h1 (by omega)
  have hc : Go.bits .or .u8 x 128 = Go.bits .or .u8 128 x := by
    obtain ⟨a, rfl⟩ := Int.eq_ofNat_of_zero_le h0
    have ha : a < 2 ^ 8 := by omega
    show Go.bits .or .u8 (a : Int) ((128 : Nat) : Int) = Go.bits .or .u8 ((128 : Nat) : Int) (a : Int)
    rw [(bits_nat .u8 8 (by decide) wraps_u8 a 128 ha (by decide)).2, (bits_nat .u8 8 (by decide) wraps_u8 128 a (by decide) ha).2, Nat.or_comm]
  rw [hc, h]
  omega
theorem or_join (i : Nat) (x y : Int) (hi : i ≤ 62) (h0 : 0 ≤ x) (h1 : x < 2 ^ i) (h2 : 0 ≤ y) (h3 : y % 2 ^ i = 0) (h4 : y < 4611686018427387904) : Go.bits .or .i64 x y = x + y := by
  have hw : ∀ n : Int, 0 ≤ n → n < 2 ^ 62 → IntKind.i64.wrap n = n := fun n a b => by rw [IntKind.wrap_i64]; omega
  have hp : (2 : Int) ^ i ≤ 2 ^ 62 := by
    have := Nat.pow_le_pow_right (n := 2) (by decide) hi
    exact_mod_cast this
  have h := bits_join .i64 62 (by decide) hw i y x h2 h3 (by omega) h0 h1 (by omega)
  have hc : Go.bits .or .i64 x y = Go.bits .or .i64 y x := by
    obtain ⟨a, rfl⟩ := Int.eq_ofNat_of_zero_le h0
    obtain ⟨b, rfl⟩ := Int.eq_ofNat_of_zero_le h2
    have ha : a < 2 ^ 62 := by omega
    have hb : b < 2 ^ 62 := by omega
    rw [(bits_nat .i64 62 (by decide) hw a b ha hb).2, (bits_nat .i64 62 (by decide) hw b a hb ha).2, Nat.or_comm]
  rw [hc, h]
  omega

theorem specPut_l0 (d : Nat) : ∀ (x : Int) (acc : List Int), 0 ≤ x → x < 128 ^ (d + 1) → x ≤ 9223372036854775807 → acc.length + d < 1000000 → Ev (fun k => spec_PutNum.l0 k x acc) (acc ++ enc d x) := by
  induction d with
  | zero =>
    intro x acc h0 h1 h2 h3
    refine ev_step (fun _ => rfl) (ev_neg (by omega) (ev_pos (by omega) (ev_now ?_)))
    simp [enc]
  | succ d ih =>
    intro x acc h0 h1 h2 h3
    refine ev_step (fun _ => rfl) ?_
    by_cases h : x > 127
    · have hd : wrap64 (Int.tdiv x 128) = x / 128 := by rw [Int.tdiv_eq_ediv_of_nonneg h0]; exact w64 (by omega) (by omega)
      have hm : (wrap64 ((Int.tmod x 128) + 128)) % 256 = x % 128 + 128 := by rw [Int.tmod_eq_emod_of_nonneg h0, w64 (by omega) (by omega)]; omega
      have hp : x / 128 < 128 ^ (d + 1) := by
        rw [Int.pow_succ] at h1
        omega
      refine ev_pos h (ev_pos (by omega) ?_)
      rw [hd, hm]
      refine ev_eq ?_ (ih (x / 128) (acc ++ [x % 128 + 128]) (by omega) hp (by omega) (by simp only [List.length_append, List.length_singleton]; omega))
      simp [enc, h]
    · refine ev_neg h (ev_pos (by omega) (ev_now ?_))
      simp [enc, h]
theorem implPut_l0 (d : Nat) : ∀ (x : Int) (acc : List Int), 0 ≤ x → x < 128 ^ (d + 1) → x < 4611686018427387904 → acc.length + d < 1000000 → Ev (fun k => impl_PutNum.l0 k x acc) (acc ++ enc d x) := by
  induction d with
  | zero =>
    intro x acc h0 h1 h2 h3
    refine ev_step (fun _ => rfl) (ev_neg (by omega) (ev_pos (by omega) (ev_now ?_)))
    simp [enc]
  | succ d ih =>
    intro x acc h0 h1 h2 h3
    refine ev_step (fun _ => rfl) ?_
    by_cases h : x > 127
    · have hm : Go.bits .or .u8 ((Go.bits .and .i64 x 127) % 256) 128 = x % 128 + 128 := by
        rw [and127 x h0 h2, or128 _ (by omega) (by omega)]; omega
      have hp : x / 128 < 128 ^ (d + 1) := by
        rw [Int.pow_succ] at h1
        omega
      refine ev_pos h (ev_pos (by omega) ?_)
      rw [hm]
      refine ev_eq ?_ (ih (x / 128) (acc ++ [x % 128 + 128]) (by omega) hp (by omega) (by simp only [List.length_append, List.length_singleton]; omega))
      simp [enc, h]
    · refine ev_neg h (ev_pos (by omega) (ev_now ?_))
      simp [enc, h]
/-- what PutNum comes to -/
def put (x : Int) : List Int := if 0 ≤ x ∧ x ≤ 2147483647 then enc 4 x else []
theorem specPut (x : Int) : Ev (fun k => spec_PutNum.f k x) (put x) := by
  unfold put
  refine ev_some rfl ?_
  by_cases h : 0 ≤ x ∧ x ≤ 2147483647
  · rw [if_pos h]
    have h1 : spec_l1In.f x 0 2147483647 = some true := by simp [spec_l1In.f, h.1, h.2]
    refine ev_some h1 (ev_pos rfl ?_)
    exact specPut_l0 4 x [] h.1 (by omega) (by omega) (by simp)
  · rw [if_neg h]
    have h1 : spec_l1In.f x 0 2147483647 = some false := by
      unfold spec_l1In.f
      by_cases h0 : x ≥ 0
      · rw [if_pos h0]; simp; omega
      · rw [if_neg h0]
    exact ev_some h1 (ev_neg (by simp) (ev_now rfl))
theorem implPut (x : Int) : Ev (fun k => impl_PutNum.f k x) (put x) := by
  unfold put
  by_cases h : 0 ≤ x ∧ x ≤ 2147483647
  · rw [if_pos h]
    have h1 : impl_within.f x 0 2147483647 = some true := by simp [impl_within.f, h.1, h.2]
    refine ev_some h1 (ev_pos rfl ?_)
    exact implPut_l0 4 x [] h.1 (by omega) (by omega) (by simp)
  · rw [if_neg h]
    have h1 : impl_within.f x 0 2147483647 = some false := by
      unfold impl_within.f
      by_cases h0 : x ≥ 0
      · rw [if_pos h0]; simp; omega
      · rw [if_neg h0]
    exact ev_some h1 (ev_neg (by simp) (ev_now rfl))
theorem put_len (x : Int) : (put x).length ≤ 5 := by
  unfold put
  split
  · exact enc_len 4 x
  · simp

/-- what GetNum comes to: c bytes may come yet, the first of them at p -/
def get : Nat → List Int → Int → Nat → Int → Int × Int × Bool
  | 0, _, _, _, _ => (0, 0, false)
  | c + 1, l, acc, j, p =>
    if p < (l.length : Int) then
      if rd l p < 128 then
        if j > 0 ∧ rd l p = 0 ∨ acc + rd l p * 128 ^ j > 2147483647 then (0, 0, false) else (acc + rd l p * 128 ^ j, p + 1, true)
      else get c l (acc + (rd l p - 128) * 128 ^ j) (j + 1) (p + 1)
    else (0, 0, false)
theorem rd_range {l : List Int} (hl : ∀ x ∈ l, 0 ≤ x ∧ x ≤ 255) (p : Int) : 0 ≤ rd l p ∧ rd l p ≤ 255 := by
  unfold rd
  rw [List.getD_eq_getElem?_getD]
  by_cases h : p.toNat < l.length
  · rw [List.getElem?_eq_getElem h]; exact hl _ (List.getElem_mem h)
  · rw [List.getElem?_eq_none (by omega)]; simp
theorem p128 (j : Nat) : (128 : Int) ^ j = 2 ^ (7 * j) := by rw [Int.pow_mul]; rfl
theorem shl_eq (b : Int) (j : Nat) (h0 : 0 ≤ b) (h1 : b < 128) (hj : j < 5) : shl .i64 b (7 * (j : Int)) = b * 128 ^ j := by
  have e : 7 * (j : Int) = ((7 * j : Nat) : Int) := by omega
  have hp : (128 : Int) ^ j ≤ 128 ^ 4 := by
    have := Nat.pow_le_pow_right (n := 128) (by decide) (show j ≤ 4 by omega)
    exact_mod_cast this
  have hp0 : (0 : Int) < 128 ^ j := Int.pow_pos (by decide)
  have hb : b * 128 ^ j ≤ 127 * 128 ^ 4 := Int.le_trans (Int.mul_le_mul_of_nonneg_right (by omega) (by omega)) (Int.mul_le_mul_of_nonneg_left hp (by decide))
  have hb0 : 0 ≤ b * 128 ^ j := Int.mul_nonneg h0 (by omega)
  unfold shl
  rw [e, Int.toNat_natCast, Nat.min_eq_left (by simp [IntKind.bits]; omega), ← p128, IntKind.wrap_i64]
  omega
theorem or_eq (acc b : Int) (j : Nat) (h0 : 0 ≤ b) (h1 : b < 128) (hj : j < 5) (ha : 0 ≤ acc) (hb : acc < 128 ^ j) : Go.bits .or .i64 acc (b * 128 ^ j) = acc + b * 128 ^ j := by
  have hp : (128 : Int) ^ j ≤ 128 ^ 4 := by
    have := Nat.pow_le_pow_right (n := 128) (by decide) (show j ≤ 4 by omega)
    exact_mod_cast this
  have hp0 : (0 : Int) < 128 ^ j := Int.pow_pos (by decide)
  have hb2 : b * 128 ^ j ≤ 127 * 128 ^ 4 := Int.le_trans (Int.mul_le_mul_of_nonneg_right (by omega) (by omega)) (Int.mul_le_mul_of_nonneg_left hp (by decide))
  have hb0 : 0 ≤ b * 128 ^ j := Int.mul_nonneg h0 (by omega)
  refine or_join (7 * j) acc _ (by omega) ha (by rw [← p128]; exact hb) hb0 ?_ (by omega)
  rw [← p128]
  exact Int.mul_emod_left b _
theorem acc_lt (acc b : Int) (j : Nat) (h1 : b < 128) (hb : acc < 128 ^ j) : acc + b * 128 ^ j < 128 ^ (j + 1) := by
  have hp0 : (0 : Int) < 128 ^ j := Int.pow_pos (by decide)
  have : b * 128 ^ j ≤ 127 * 128 ^ j := Int.mul_le_mul_of_nonneg_right (by omega) (by omega)
  rw [Int.pow_succ]
  omega

theorem implGet_l0 (l : List Int) (hl : ∀ x ∈ l, 0 ≤ x ∧ x ≤ 255) (hn : l.length ≤ 1048576) (a : Int) (ha : 0 ≤ a) (h2 : a ≤ 9223372036854775807) : ∀ (c j : Nat) (acc : Int), c + j = 5 → 0 ≤ acc → acc < 128 ^ j →
    Ev (fun k => impl_GetNum.l0 k l a acc (a + j)) (get c l acc j (a + j)) := by
  intro c
  induction c with
  | zero =>
    intro j acc hc h0 h1
    obtain rfl : j = 5 := by omega
    refine ev_step (fun _ => by rw [impl_GetNum.l0]) ?_
    refine ev_ite (fun h => ?_) (fun h => ?_)
    · have e : decide (a + ((5 : Nat) : Int) < wrap64 (a + 5)) = false := by
        rw [w64 (by omega) (by omega)]
        exact decide_eq_false (by omega)
      rw [e]
      refine ev_step (fun _ => by rw [impl_GetNum.j1]) ?_
      exact ev_neg (by simp) (ev_now rfl)
    · refine ev_step (fun _ => by rw [impl_GetNum.j1]) ?_
      exact ev_neg (by simp) (ev_now rfl)
  | succ c ih =>
    intro j acc hc h0 h1
    refine ev_step (fun _ => by rw [impl_GetNum.l0]) ?_
    refine ev_ite (fun h => ?_) (fun h => ?_)
    · have e1 : decide (a + (j : Int) < wrap64 (a + 5)) = true := by
        rw [w64 (by omega) (by omega)]
        exact decide_eq_true (by omega)
      have e2 : wrap64 (a + (j : Int) - a) = (j : Int) := by rw [w64 (by omega) (by omega)]; omega
      have hb := rd_range hl (a + j)
      have e3 : wrap64 (Go.bits .and .u8 (rd l (a + j)) 127) = rd l (a + j) % 128 := by rw [and127b _ hb.1 hb.2, w64 (by omega) (by omega)]
      have e11 : wrap64 (7 * (j : Int)) = 7 * (j : Int) := w64 (by omega) (by omega)
      have e4 : shl .i64 (rd l (a + j) % 128) (7 * (j : Int)) = (rd l (a + j) % 128) * 128 ^ j := shl_eq _ j (by omega) (by omega) (by omega)
      have e5 : Go.bits .or .i64 acc ((rd l (a + j) % 128) * 128 ^ j) = acc + (rd l (a + j) % 128) * 128 ^ j := or_eq acc _ j (by omega) (by omega) (by omega) h0 h1
      have hp0 : (0 : Int) < 128 ^ j := Int.pow_pos (by decide)
      have e9 : wrap64 (a + (j : Int) + 1) = a + (j : Int) + 1 := w64 (by omega) (by omega)
      rw [e1]
      refine ev_step (fun _ => by rw [impl_GetNum.j1]) ?_
      refine ev_pos rfl (ev_pos (by omega) (ev_pos h ?_))
      simp only [e2, e3, e4, e5, e9, e11]
      clear e1 e2 e3 e4 e5 e9 e11
      refine ev_pos (by omega) ?_
      simp only [get, if_pos h]
      refine ev_ite (fun g => ?_) (fun g => ?_)
      · have e6 : rd l (a + j) % 128 = rd l (a + j) := by omega
        simp only [e6, if_pos g]
        refine ev_ite (fun q => ev_now ?_) (fun q => ?_)
        · rw [if_pos (.inr q)]
        · refine ev_ite (fun q1 => ?_) (fun q1 => ?_)
          · refine ev_ite (fun q2 => ev_now ?_) (fun q2 => ev_now ?_)
            · rw [if_pos (.inl ⟨by omega, q2⟩)]
            · rw [if_neg (by omega)]
          · refine ev_now ?_
            rw [if_neg (by omega)]
      · have e6 : rd l (a + j) % 128 = rd l (a + j) - 128 := by omega
        simp only [e6, if_neg g]
        have e8 : a + (j : Int) + 1 = a + ((j + 1 : Nat) : Int) := by omega
        rw [e8]
        exact ih (j + 1) _ (by omega) (by have := Int.mul_nonneg (show 0 ≤ rd l (a + j) - 128 by omega) (show 0 ≤ (128 : Int) ^ j by omega); omega) (acc_lt _ _ _ (by omega) h1)
    · refine ev_step (fun _ => by rw [impl_GetNum.j1]) ?_
      refine ev_neg (by simp) (ev_now ?_)
      simp only [get, if_neg h]
theorem specGet_l0 (l : List Int) (hl : ∀ x ∈ l, 0 ≤ x ∧ x ≤ 255) (hn : l.length ≤ 1048576) (a : Int) (ha : 0 ≤ a) (h2 : a ≤ 9223372036854775807) : ∀ (c j : Nat) (acc : Int), c + j = 5 → 0 ≤ acc → acc < 128 ^ j →
    Ev (fun k => spec_GetNum.l0 k l a acc (j : Int)) (get c l acc j (a + j)) := by
  intro c
  induction c with
  | zero =>
    intro j acc hc h0 h1
    obtain rfl : j = 5 := by omega
    refine ev_step (fun _ => by rw [spec_GetNum.l0]) ?_
    exact ev_neg (by omega) (ev_now rfl)
  | succ c ih =>
    intro j acc hc h0 h1
    refine ev_step (fun _ => by rw [spec_GetNum.l0]) ?_
    refine ev_pos (by omega) (ev_neg (by omega) ?_)
    have e0 : wrap64 ((l.length : Int) - (j : Int)) = (l.length : Int) - (j : Int) := w64 (by omega) (by omega)
    rw [e0]
    refine ev_step (fun _ => by rw [spec_GetNum.j1]) ?_
    refine ev_ite (fun h => ?_) (fun h => ?_)
    · have h' := of_decide_eq_true h
      refine ev_now ?_
      simp only [get, if_neg (show ¬ a + (j : Int) < (l.length : Int) by omega)]
    · have h' : ¬ a ≥ (l.length : Int) - (j : Int) := fun q => h (decide_eq_true q)
      have hlt : a + (j : Int) < (l.length : Int) := by omega
      have e2 : wrap64 (a + (j : Int)) = a + (j : Int) := w64 (by omega) (by omega)
      have hb := rd_range hl (a + j)
      have e3 : wrap64 (rd l (a + j)) = rd l (a + j) := w64 (by omega) (by omega)
      have e3b : Int.tmod (rd l (a + j)) 128 = rd l (a + j) % 128 := Int.tmod_eq_emod_of_nonneg (by omega)
      have e11 : wrap64 (7 * (j : Int)) = 7 * (j : Int) := w64 (by omega) (by omega)
      have e4 : shl .i64 (rd l (a + j) % 128) (7 * (j : Int)) = (rd l (a + j) % 128) * 128 ^ j := shl_eq _ j (by omega) (by omega) (by omega)
      have e5 : Go.bits .or .i64 acc ((rd l (a + j) % 128) * 128 ^ j) = acc + (rd l (a + j) % 128) * 128 ^ j := or_eq acc _ j (by omega) (by omega) (by omega) h0 h1
      have hp0 : (0 : Int) < 128 ^ j := Int.pow_pos (by decide)
      have e9 : wrap64 (a + (j : Int) + 1) = a + (j : Int) + 1 := w64 (by omega) (by omega)
      have e10 : wrap64 ((j : Int) + 1) = ((j + 1 : Nat) : Int) := by rw [w64 (by omega) (by omega)]; omega
      simp only [e2, e3, e3b, e4, e5, e9, e10, e11]
      clear e0 e2 e3 e3b e4 e5 e9 e10 e11
      refine ev_pos (by omega) ?_
      refine ev_pos hlt ?_
      refine ev_pos (by omega) ?_
      simp only [get, if_pos hlt]
      refine ev_ite (fun g => ?_) (fun g => ?_)
      · have e6 : rd l (a + j) % 128 = rd l (a + j) := by omega
        simp only [e6, if_pos g]
        refine ev_ite (fun q1 => ?_) (fun q1 => ?_)
        · refine ev_ite (fun q2 => ev_now ?_) (fun q2 => ev_ite (fun q => ev_now ?_) (fun q => ev_now ?_))
          · rw [if_pos (.inl ⟨by omega, q2⟩)]
          · rw [if_pos (.inr q)]
          · rw [if_neg (by omega)]
        · refine ev_ite (fun q => ev_now ?_) (fun q => ev_now ?_)
          · rw [if_pos (.inr q)]
          · rw [if_neg (by omega)]
      · have e6 : rd l (a + j) % 128 = rd l (a + j) - 128 := by omega
        simp only [e6, if_neg g]
        have e8 : a + (j : Int) + 1 = a + ((j + 1 : Nat) : Int) := by omega
        rw [e8]
        exact ih (j + 1) _ (by omega) (by have := Int.mul_nonneg (show 0 ≤ rd l (a + j) - 128 by omega) (show 0 ≤ (128 : Int) ^ j by omega); omega) (acc_lt _ _ _ (by omega) h1)
/-- what GetNum comes to -/
def getNum (l : List Int) (a : Int) : Int × Int × Bool := if a < 0 then (0, 0, false) else get 5 l 0 0 a
theorem implGet (l : List Int) (hl : ∀ x ∈ l, 0 ≤ x ∧ x ≤ 255) (hn : l.length ≤ 1048576) (a : Int) (h2 : a ≤ 9223372036854775807) : Ev (fun k => impl_GetNum.f k l a) (getNum l a) := by
  unfold getNum
  refine ev_ite (fun h => ev_now ?_) (fun h => ?_)
  · rw [if_pos h]
  · rw [if_neg h]
    have := implGet_l0 l hl hn a (by omega) h2 5 0 0 rfl (by omega) (by decide)
    simpa using this
theorem specGet (l : List Int) (hl : ∀ x ∈ l, 0 ≤ x ∧ x ≤ 255) (hn : l.length ≤ 1048576) (a : Int) (h2 : a ≤ 9223372036854775807) : Ev (fun k => spec_GetNum.f k l a) (getNum l a) := by
  unfold getNum
  show Ev (fun k => spec_GetNum.l0 k l a 0 0) _
  by_cases h : a < 0
  · rw [if_pos h]
    refine ev_step (fun _ => by rw [spec_GetNum.l0]) ?_
    refine ev_pos (by omega) (ev_pos h ?_)
    refine ev_step (fun _ => by rw [spec_GetNum.j1]) ?_
    exact ev_pos rfl (ev_now rfl)
  · rw [if_neg h]
    have := specGet_l0 l hl hn a (by omega) h2 5 0 0 rfl (by omega) (by decide)
    simpa using this

theorem get_ok (l : List Int) (hl : ∀ x ∈ l, 0 ≤ x ∧ x ≤ 255) : ∀ (c : Nat) (acc : Int) (j : Nat) (p : Int), 0 ≤ p → 0 ≤ acc → (get c l acc j p).2.2 = true →
    0 ≤ (get c l acc j p).1 ∧ (get c l acc j p).1 ≤ 2147483647 ∧ p < (get c l acc j p).2.1 ∧ (get c l acc j p).2.1 ≤ (l.length : Int) := by
  intro c
  induction c with
  | zero => intro acc j p _ _ h; simp [get] at h
  | succ c ih =>
    intro acc j p hp ha h
    have hb := rd_range hl p
    have hp0 : (0 : Int) < 128 ^ j := Int.pow_pos (by decide)
    unfold get at h ⊢
    by_cases h1 : p < (l.length : Int)
    · simp only [if_pos h1] at h ⊢
      by_cases h2 : rd l p < 128
      · simp only [if_pos h2] at h ⊢
        have hm : 0 ≤ rd l p * 128 ^ j := Int.mul_nonneg hb.1 (by omega)
        by_cases h3 : j > 0 ∧ rd l p = 0 ∨ acc + rd l p * 128 ^ j > 2147483647
        · simp [if_pos h3] at h
        · simp only [if_neg h3]
          refine ⟨by omega, by omega, by omega, by omega⟩
      · simp only [if_neg h2] at h ⊢
        have hm : 0 ≤ (rd l p - 128) * 128 ^ j := Int.mul_nonneg (by omega) (by omega)
        have := ih _ _ _ (show 0 ≤ p + 1 by omega) (show 0 ≤ acc + (rd l p - 128) * 128 ^ j by omega) h
        exact ⟨this.1, this.2.1, by omega, this.2.2.2⟩
    · simp [if_neg h1] at h
theorem getNum_ok (l : List Int) (hl : ∀ x ∈ l, 0 ≤ x ∧ x ≤ 255) (a : Int) (h : (getNum l a).2.2 = true) :
    0 ≤ (getNum l a).1 ∧ (getNum l a).1 ≤ 2147483647 ∧ 0 ≤ a ∧ a < (getNum l a).2.1 ∧ (getNum l a).2.1 ≤ (l.length : Int) := by
  unfold getNum at h ⊢
  by_cases h0 : a < 0
  · simp [if_pos h0] at h
  · simp only [if_neg h0] at h ⊢
    have := get_ok l hl 5 0 0 a (by omega) (by omega) h
    exact ⟨this.1, this.2.1, by omega, this.2.2.1, this.2.2.2⟩
/-- what GetText comes to -/
def getText (l : List Int) (a : Int) : ByteArray × Int × Bool :=
  if (getNum l a).2.2 = true then
    if (getNum l a).1 > (l.length : Int) - (getNum l a).2.1 then (⟨#[]⟩, 0, false)
    else (strOfNums ((l.take ((getNum l a).2.1 + (getNum l a).1).toNat).drop (getNum l a).2.1.toNat), (getNum l a).2.1 + (getNum l a).1, true)
  else (⟨#[]⟩, 0, false)
theorem text_tail (l : List Int) (hl : ∀ x ∈ l, 0 ≤ x ∧ x ≤ 255) (hn : l.length ≤ 1048576) (a : Int) :
    Ev (fun _ => if (getNum l a).2.2 = true then (if (getNum l a).1 > (wrap64 ((l.length : Int) - (getNum l a).2.1)) then (some ((⟨#[]⟩ : ByteArray), (0 : Int), false)) else (if 0 ≤ (getNum l a).2.1 then (if (getNum l a).2.1 ≤ (wrap64 ((getNum l a).2.1 + (getNum l a).1)) then (if (wrap64 ((getNum l a).2.1 + (getNum l a).1)) ≤ (l.length : Int) then (some (strOfNums ((l.take ((wrap64 ((getNum l a).2.1 + (getNum l a).1)) : Int).toNat).drop ((getNum l a).2.1 : Int).toNat), wrap64 ((getNum l a).2.1 + (getNum l a).1), true)) else (none)) else (none)) else (none))) else (some ((⟨#[]⟩ : ByteArray), 0, false))) (getText l a) := by
  unfold getText
  refine ev_ite (fun h => ?_) (fun h => ev_now ?_)
  · rw [if_pos h]
    have g := getNum_ok l hl a h
    have e1 : wrap64 ((l.length : Int) - (getNum l a).2.1) = (l.length : Int) - (getNum l a).2.1 := w64 (by omega) (by omega)
    have e2 : wrap64 ((getNum l a).2.1 + (getNum l a).1) = (getNum l a).2.1 + (getNum l a).1 := w64 (by omega) (by omega)
    simp only [e1, e2]
    refine ev_ite (fun q => ev_now ?_) (fun q => ?_)
    · rw [if_pos q]
    · rw [if_neg q]
      exact ev_pos (by omega) (ev_pos (by omega) (ev_pos (by omega) (ev_now rfl)))
  · rw [if_neg h]
theorem implText (l : List Int) (hl : ∀ x ∈ l, 0 ≤ x ∧ x ≤ 255) (hn : l.length ≤ 1048576) (a : Int) (h2 : a ≤ 9223372036854775807) : Ev (fun k => impl_GetText.f k l a) (getText l a) :=
  ev_bind (implGet l hl hn a h2) (text_tail l hl hn a)
theorem specText (l : List Int) (hl : ∀ x ∈ l, 0 ≤ x ∧ x ≤ 255) (hn : l.length ≤ 1048576) (a : Int) (h2 : a ≤ 9223372036854775807) : Ev (fun k => spec_GetText.f k l a) (getText l a) :=
  ev_bind (specGet l hl hn a h2) (text_tail l hl hn a)

/-! the laws' own words on bytes -/
theorem toByteS_l0 (l : List Int) (hn : l.length ≤ 1048576) : ∀ (d i : Nat) (acc : List Int), i + d = l.length → acc.length = l.length → Ev (fun k => laws_toByteS.l0 k l acc (i : Int)) (l.drop i |> (acc.take i ++ ·)) := by
  intro d
  induction d with
  | zero =>
    intro i acc h1 h2
    refine ev_step (fun _ => rfl) (ev_neg (by omega) (ev_now ?_))
    simp [List.take_of_length_le (show acc.length ≤ i by omega), List.drop_eq_nil_of_le (show l.length ≤ i by omega)]
  | succ d ih =>
    intro i acc h1 h2
    refine ev_step (fun _ => rfl) (ev_pos (by omega) (ev_pos (by omega) (ev_pos (by omega) ?_)))
    have e : wrap64 ((i : Int) + 1) = ((i + 1 : Nat) : Int) := by rw [w64 (by omega) (by omega)]; omega
    rw [e, Int.toNat_natCast, rd_eq l i (by omega)]
    refine ev_eq ?_ (ih (i + 1) (acc.set i l[i]) (by omega) (by simp; omega))
    show (acc.set i l[i]).take (i + 1) ++ l.drop (i + 1) = acc.take i ++ l.drop i
    rw [List.take_succ_eq_append_getElem (by simp; omega), List.take_set_of_le (Nat.le_refl i), List.getElem_set_self, List.drop_eq_getElem_cons (show i < l.length by omega)]
    simp
theorem toByteS (l : List Int) (hn : l.length ≤ 1048576) : Ev (fun k => laws_toByteS.f k l) l := by
  refine ev_pos (by omega) (ev_pos (by omega) ?_)
  have := toByteS_l0 l hn l.length 0 (List.replicate ((l.length : Int)).toNat 0) (by omega) (by simp)
  simpa using this
theorem eqByteS_l0 (l : List Int) (hn : l.length ≤ 2097152) : ∀ (d i : Nat), i + d = l.length → Ev (fun k => laws_eqByteS.l0 k l l (i : Int)) true := by
  intro d
  induction d with
  | zero => intro i h; exact ev_step (fun _ => rfl) (ev_neg (by omega) (ev_now rfl))
  | succ d ih =>
    intro i h
    refine ev_step (fun _ => rfl) (ev_pos (by omega) (ev_pos (by omega) (ev_pos (by omega) (ev_pos rfl ?_))))
    have e : wrap64 ((i : Int) + 1) = ((i + 1 : Nat) : Int) := by rw [w64 (by omega) (by omega)]; omega
    rw [e]
    exact ih (i + 1) (by omega)
theorem eqByteS (l : List Int) (hn : l.length ≤ 2097152) : Ev (fun k => laws_eqByteS.f k l l) true := ev_pos rfl (eqByteS_l0 l hn l.length 0 (by omega))
/-- what markByteS leaves: the numbers from q on, as bytes -/
def marked (q n : Nat) : List Int := (List.range n).map fun i => ((q + i : Nat) : Int) % 256
theorem marked_len (q n : Nat) : (marked q n).length = n := by simp [marked]
theorem markByteS_l0 (n : Nat) (hn : n ≤ 2097152) : ∀ (d i : Nat) (acc : List Int), i + d = n → acc.length = n → acc.take i = marked 1 i →
    Ev (fun k => laws_markByteS.l0 k acc ((1 + i : Nat) : Int) (i : Int)) (((1 + n : Nat) : Int), marked 1 n) := by
  intro d
  induction d with
  | zero =>
    intro i acc h1 h2 h3
    obtain rfl : i = n := by omega
    refine ev_step (fun _ => rfl) (ev_neg (by omega) (ev_now ?_))
    rw [← h3, List.take_of_length_le (by omega)]
  | succ d ih =>
    intro i acc h1 h2 h3
    refine ev_step (fun _ => rfl) (ev_pos (by omega) (ev_pos (by omega) ?_))
    have e : wrap64 ((i : Int) + 1) = ((i + 1 : Nat) : Int) := by rw [w64 (by omega) (by omega)]; omega
    have e2 : wrap64 (((1 + i : Nat) : Int) + 1) = ((1 + (i + 1) : Nat) : Int) := by rw [w64 (by omega) (by omega)]; omega
    rw [e, e2, Int.toNat_natCast]
    refine ih (i + 1) _ (by omega) (by simp; omega) ?_
    rw [List.take_succ_eq_append_getElem (by simp; omega), List.take_set_of_le (Nat.le_refl i), List.getElem_set_self, h3]
    simp [marked, List.range_succ]
theorem markByteS (l : List Int) (hn : l.length ≤ 2097152) : Ev (fun k => laws_markByteS.f k l 1) (((1 + l.length : Nat) : Int), marked 1 l.length) := markByteS_l0 l.length hn l.length 0 l (by omega) rfl (by simp [marked])
theorem heldByteS_l0 (n : Nat) (hn : n ≤ 2097152) : ∀ (d i : Nat), i + d = n → Ev (fun k => laws_heldByteS.l0 k (marked 1 n) ((1 + i : Nat) : Int) (i : Int)) ((1 + n : Nat) : Int) := by
  intro d
  induction d with
  | zero =>
    intro i h1
    obtain rfl : i = n := by omega
    exact ev_step (fun _ => rfl) (ev_neg (by rw [marked_len]; omega) (ev_now rfl))
  | succ d ih =>
    intro i h1
    refine ev_step (fun _ => rfl) (ev_pos (by rw [marked_len]; omega) (ev_pos (by omega) (ev_pos ?_ ?_)))
    · rw [rd_eq _ i (by rw [marked_len]; omega)]
      simp [marked]
    · have e : wrap64 ((i : Int) + 1) = ((i + 1 : Nat) : Int) := by rw [w64 (by omega) (by omega)]; omega
      have e2 : wrap64 (((1 + i : Nat) : Int) + 1) = ((1 + (i + 1) : Nat) : Int) := by rw [w64 (by omega) (by omega)]; omega
      rw [e, e2]
      exact ih (i + 1) (by omega)
theorem heldByteS (n : Nat) (hn : n ≤ 2097152) : Ev (fun k => laws_heldByteS.f k (marked 1 n) 1) ((1 + n : Nat) : Int) := heldByteS_l0 n hn n 0 (by omega)
end Go.Proofs.Ytgkeapbeogmfjaa.L

/- The plain side of numbers within bounds: program and reference come to one answer. No condition. -/
namespace Go.Proofs.Ytgkeapbeogmfjaa.L
open Go.RowKit Go.Proofs.YtgkeapbeogmfjaaW.PrintWords Go.Proofs.YtgkeapbeogmfjaaW.PrintLast Go.Proofs.YtgkeapbeogmfjaaW.PrintMore Go.Proofs.Ytgkeapbeogmfjaa.Q

/-- is a number within bounds -/
def inb (x a b : Int) : Bool := decide (a ≤ x) && decide (x ≤ b)
theorem specIn (x a b : Int) : spec_l1In.f x a b = some (inb x a b) := by
  unfold spec_l1In.f inb
  by_cases h : x ≥ a
  · rw [if_pos h]; simp [show a ≤ x from h]
  · rw [if_neg h]; simp [show ¬ a ≤ x from h]
theorem implIn (x a b : Int) : impl_within.f x a b = some (inb x a b) := by
  unfold impl_within.f inb
  by_cases h : x ≥ a
  · rw [if_pos h]; simp [show a ≤ x from h]
  · rw [if_neg h]; simp [show ¬ a ≤ x from h]
theorem inb_true {x a b : Int} : inb x a b = true ↔ a ≤ x ∧ x ≤ b := by simp [inb]
theorem ev_and {g : Nat → Option Bool} {c d : Bool} (h : c = true → Ev g d) : Ev (fun n => if c = true then (g n) else some false) (c && d) := by
  cases c with
  | false => exact ev_neg (by simp) (ev_now rfl)
  | true => exact ev_pos rfl (by simpa using h rfl)

end Go.Proofs.Ytgkeapbeogmfjaa.L

/- The plain side of right texts: program and reference come to one answer. Condition: texts of at most 2^63 - 1 bytes, as any text that is read. -/
namespace Go.Proofs.Ytgkeapbeogmfjaa.L
open Go.RowKit Go.Proofs.YtgkeapbeogmfjaaW.PrintWords Go.Proofs.YtgkeapbeogmfjaaW.PrintLast Go.Proofs.YtgkeapbeogmfjaaW.PrintMore Go.Proofs.Ytgkeapbeogmfjaa.Q

/-- may a byte stand in a text -/
def okB (b : Int) : Prop := 97 ≤ b ∧ b ≤ 122 ∨ 48 ≤ b ∧ b ≤ 57 ∨ b = 32
instance (b : Int) : Decidable (okB b) := by unfold okB; infer_instance
/-- are all bytes from i on right -/
def okFrom (s : ByteArray) : Nat → Nat → Bool
  | 0, _ => true
  | d + 1, i => decide (okB (bt s i)) && okFrom s d (i + 1)
/-- what wordsOk comes to -/
def words (s : ByteArray) : Bool := okFrom s s.size 0 && decide ((s.size : Int) ≤ 30)
theorem specText_l0 (s : ByteArray) (hs : s.size ≤ 9223372036854775807) : ∀ (d i : Nat), i + d = s.size → Ev (fun k => spec_l2Text.l0 k s (i : Int)) (okFrom s d i && decide ((s.size : Int) ≤ 30)) := by
  intro d
  induction d with
  | zero => intro i h; exact ev_step (fun _ => rfl) (ev_neg (by omega) (ev_now (by simp [okFrom])))
  | succ d ih =>
    intro i h
    have e : wrap64 ((i : Int) + 1) = ((i + 1 : Nat) : Int) := by rw [w64 (by omega) (by omega)]; omega
    have cont : okB (bt s i) → Ev (fun k => spec_l2Text.l0 k s (wrap64 ((i : Int) + 1))) (okFrom s (d + 1) i && decide ((s.size : Int) ≤ 30)) := fun q => by rw [e]; simpa [okFrom, q] using ih (i + 1) (by omega)
    have stop : ¬ okB (bt s i) → Ev (fun _ => some false) (okFrom s (d + 1) i && decide ((s.size : Int) ≤ 30)) := fun q => ev_now (by simp [okFrom, q])
    refine ev_step (fun _ => rfl) (ev_pos (by omega) (ev_pos (by omega) ?_))
    repeat' refine ev_ite (fun _ => ?_) (fun _ => ?_)
    all_goals first | (refine cont ?_; unfold okB; omega) | (refine stop ?_; unfold okB; omega)
theorem implText_l0 (s : ByteArray) (hs : s.size ≤ 9223372036854775807) : ∀ (d i : Nat), i + d = s.size → Ev (fun k => impl_wordsOk.l0 k s (i : Int)) (okFrom s d i && decide ((s.size : Int) ≤ 30)) := by
  intro d
  induction d with
  | zero => intro i h; exact ev_step (fun _ => rfl) (ev_neg (by omega) (ev_now (by simp [okFrom])))
  | succ d ih =>
    intro i h
    have e : wrap64 ((i : Int) + 1) = ((i + 1 : Nat) : Int) := by rw [w64 (by omega) (by omega)]; omega
    have cont : okB (bt s i) → Ev (fun k => impl_wordsOk.l0 k s (wrap64 ((i : Int) + 1))) (okFrom s (d + 1) i && decide ((s.size : Int) ≤ 30)) := fun q => by rw [e]; simpa [okFrom, q] using ih (i + 1) (by omega)
    have stop : ¬ okB (bt s i) → Ev (fun _ => some false) (okFrom s (d + 1) i && decide ((s.size : Int) ≤ 30)) := fun q => ev_now (by simp [okFrom, q])
    refine ev_step (fun _ => rfl) (ev_pos (by omega) (ev_pos (by omega) ?_))
    repeat' refine ev_ite (fun _ => ?_) (fun _ => ?_)
    all_goals first | (refine cont ?_; unfold okB; omega) | (refine stop ?_; unfold okB; omega)
theorem specWords (s : ByteArray) (hs : s.size ≤ 9223372036854775807) : Ev (fun k => spec_l2Text.f k s) (words s) := specText_l0 s hs s.size 0 (by omega)
theorem implWords (s : ByteArray) (hs : s.size ≤ 9223372036854775807) : Ev (fun k => impl_wordsOk.f k s) (words s) := implText_l0 s hs s.size 0 (by omega)
theorem ev_last {g : Nat → Option Bool} {d : Bool} (h : Ev g d) : Ev (fun n => (g n).bind fun t => some t) d := Ev.bind h (Ev.now d)
end Go.Proofs.Ytgkeapbeogmfjaa.L

/- The plain side of commands that are right: program and reference come to one answer. Condition: texts of at most 2^63 - 1 bytes. -/
namespace Go.Proofs.Ytgkeapbeogmfjaa.L
open Go.RowKit Go.Proofs.YtgkeapbeogmfjaaW.PrintWords Go.Proofs.YtgkeapbeogmfjaaW.PrintLast Go.Proofs.YtgkeapbeogmfjaaW.PrintMore Go.Proofs.Ytgkeapbeogmfjaa.Q

/-- what CmdOk comes to -/
def cmdOk (w s o a b c : Int) (k t : ByteArray) : Bool :=
  if w = -1 then (w == (-1) && (s == 0 && (o == 0 && (a == 0 && (b == 0 && (c == 0 && (k.toList == ([] : List UInt8) && (t.toList == ([] : List UInt8)))))))))
  else inb w 0 3 && (inb s 1 100000 && (inb o 1 10 && (inb a 0 100000 && (inb b 0 100000 && (inb c 0 100000 && (words k && words t))))))
theorem specCmd (w s o a b c : Int) (k t : ByteArray) (hk : k.size ≤ maxLen) (ht : t.size ≤ maxLen) : Ev (fun m => spec_CmdOk.f m w s o a b c k t) (cmdOk w s o a b c k t) := by
  unfold maxLen at hk ht
  unfold cmdOk
  refine ev_ite (fun h => ev_now ?_) (fun h => ?_)
  · rw [if_pos h]
  · rw [if_neg h]
    exact ev_some (specIn _ _ _) (ev_and fun _ => ev_some (specIn _ _ _) (ev_and fun _ => ev_some (specIn _ _ _) (ev_and fun _ => ev_some (specIn _ _ _) (ev_and fun _ => ev_some (specIn _ _ _) (ev_and fun _ => ev_some (specIn _ _ _) (ev_and fun _ => ev_bind (specWords k (by omega)) (ev_and fun _ => ev_last (specWords t (by omega)))))))))
theorem implCmd (w s o a b c : Int) (k t : ByteArray) (hk : k.size ≤ maxLen) (ht : t.size ≤ maxLen) : Ev (fun m => impl_CmdOk.f m w s o a b c k t) (cmdOk w s o a b c k t) := by
  unfold maxLen at hk ht
  unfold cmdOk
  refine ev_ite (fun h => ev_now ?_) (fun h => ?_)
  · rw [if_pos h]
  · rw [if_neg h]
    exact ev_some (implIn _ _ _) (ev_and fun _ => ev_some (implIn _ _ _) (ev_and fun _ => ev_some (implIn _ _ _) (ev_and fun _ => ev_some (implIn _ _ _) (ev_and fun _ => ev_some (implIn _ _ _) (ev_and fun _ => ev_some (implIn _ _ _) (ev_and fun _ => ev_bind (implWords k (by omega)) (ev_and fun _ => ev_last (implWords t (by omega)))))))))
end Go.Proofs.Ytgkeapbeogmfjaa.L

/- The plain side of a command's bytes: program and reference come to one list. Condition: lists of at most 2^16 numbers, texts of at most 2^20 bytes. -/
namespace Go.Proofs.Ytgkeapbeogmfjaa.L
open Go.RowKit Go.Proofs.YtgkeapbeogmfjaaW.PrintWords Go.Proofs.YtgkeapbeogmfjaaW.PrintLast Go.Proofs.YtgkeapbeogmfjaaW.PrintMore Go.Proofs.Ytgkeapbeogmfjaa.Q

/-- the numbers from i on, one behind the other -/
def putAll (l : List Int) : Nat → Nat → List Int
  | 0, _ => []
  | d + 1, i => put (rd l (i : Int)) ++ putAll l d (i + 1)
theorem putAll_len (l : List Int) : ∀ (d i : Nat), (putAll l d i).length ≤ 5 * d := by
  intro d
  induction d with
  | zero => intro i; simp [putAll]
  | succ d ih =>
    intro i
    have h1 := ih (i + 1)
    have h2 := put_len (rd l (i : Int))
    unfold putAll
    rw [List.length_append]
    omega
theorem implNums_l0 (l : List Int) (hn : l.length ≤ 65536) : ∀ (d i : Nat) (acc : List Int), i + d = l.length → acc.length + 5 * d ≤ 1048576 → Ev (fun k => impl_nums.l0 k acc l (l.length : Int) (i : Int)) (acc ++ putAll l d i) := by
  intro d
  induction d with
  | zero =>
    intro i acc h q
    refine ev_step (fun _ => by rw [impl_nums.l0]) ?_
    exact ev_neg (by omega) (ev_now (by simp [putAll]))
  | succ d ih =>
    intro i acc h q
    have e : wrap64 ((i : Int) + 1) = ((i + 1 : Nat) : Int) := by rw [w64 (by omega) (by omega)]; omega
    have hp := put_len (rd l (i : Int))
    refine ev_step (fun _ => by rw [impl_nums.l0]) ?_
    rw [e]
    refine ev_pos (by omega) (ev_pos (by omega) (ev_pos (by omega) (ev_bind (implPut _) (ev_pos (by omega) ?_))))
    exact ev_eq (by simp [putAll]) (ih (i + 1) (acc ++ put (rd l (i : Int))) (by omega) (by rw [List.length_append]; omega))
theorem specNums_l0 (l : List Int) (hn : l.length ≤ 65536) : ∀ (d i : Nat) (acc : List Int), i + d = l.length → acc.length + 5 * d ≤ 1048576 → Ev (fun k => spec_l7Nums.l0 k l acc (i : Int)) (acc ++ putAll l d i) := by
  intro d
  induction d with
  | zero =>
    intro i acc h q
    refine ev_step (fun _ => by rw [spec_l7Nums.l0]) ?_
    exact ev_neg (by omega) (ev_now (by simp [putAll]))
  | succ d ih =>
    intro i acc h q
    have e : wrap64 ((i : Int) + 1) = ((i + 1 : Nat) : Int) := by rw [w64 (by omega) (by omega)]; omega
    have hp := put_len (rd l (i : Int))
    refine ev_step (fun _ => by rw [spec_l7Nums.l0]) ?_
    rw [e]
    refine ev_pos (by omega) (ev_pos (by omega) (ev_bind (specPut _) (ev_pos (by omega) ?_)))
    exact ev_eq (by simp [putAll]) (ih (i + 1) (acc ++ put (rd l (i : Int))) (by omega) (by rw [List.length_append]; omega))
theorem implNums (l : List Int) (hn : l.length ≤ 65536) : Ev (fun k => impl_nums.f k l) (putAll l l.length 0) := implNums_l0 l hn l.length 0 [] (by omega) (by simp; omega)
theorem specNums (l : List Int) (hn : l.length ≤ 65536) : Ev (fun k => spec_l7Nums.f k l) (putAll l l.length 0) := specNums_l0 l hn l.length 0 [] (by omega) (by simp; omega)
/-- a text's bytes, behind their count -/
def putText (s : ByteArray) : List Int := put (s.size : Int) ++ bytesOf s
theorem putText_len (s : ByteArray) : (putText s).length ≤ s.size + 5 := by
  have := put_len (s.size : Int)
  unfold putText
  rw [List.length_append, bytesOf_length]
  omega
theorem specPutText (s : ByteArray) (hs : s.size ≤ 1048576) : Ev (fun k => spec_PutText.f k s) (putText s) := by
  have := put_len (s.size : Int)
  exact ev_bind (specPut _) (ev_pos (by omega) (ev_now rfl))
theorem implPutText (s : ByteArray) (hs : s.size ≤ 1048576) : Ev (fun k => impl_PutText.f k s) (putText s) := by
  have := put_len (s.size : Int)
  exact ev_bind (implPut _) (ev_pos (by omega) (ev_now rfl))
/-- a command's six numbers -/
def cmdNums (w s o a b c : Int) : List Int := putAll [wrap64 (w + 1), s, o, a, b, c] 6 0
theorem cmdNums_len (w s o a b c : Int) : (cmdNums w s o a b c).length ≤ 30 := putAll_len _ 6 0
/-- what CmdBytes comes to -/
def cmdBytes (w s o a b c : Int) (k t : ByteArray) : List Int := if cmdOk w s o a b c k t = true then cmdNums w s o a b c ++ putText k ++ putText t else []
theorem cmdBytes_len (w s o a b c : Int) (k t : ByteArray) : (cmdBytes w s o a b c k t).length ≤ k.size + t.size + 40 := by
  have h1 := cmdNums_len w s o a b c
  have h2 := putText_len k
  have h3 := putText_len t
  unfold cmdBytes
  split
  · simp only [List.length_append]; omega
  · simp
theorem specCmdBytes (w s o a b c : Int) (k t : ByteArray) (hk : k.size ≤ 1048576) (ht : t.size ≤ 1048576) : Ev (fun m => spec_CmdBytes.f m w s o a b c k t) (cmdBytes w s o a b c k t) := by
  have h1 := cmdNums_len w s o a b c
  have h2 := putText_len k
  have h3 := putText_len t
  have h4 : (cmdNums w s o a b c ++ putText k).length = (cmdNums w s o a b c).length + (putText k).length := List.length_append
  refine ev_bind (specCmd w s o a b c k t (by unfold maxLen; omega) (by unfold maxLen; omega)) ?_
  unfold cmdBytes
  by_cases h : cmdOk w s o a b c k t = true
  · rw [if_pos h]
    have n : Ev (fun m => spec_l7Nums.f m [wrap64 (w + 1), s, o, a, b, c]) (cmdNums w s o a b c) := specNums _ (by simp)
    exact ev_pos h (ev_bind n (ev_bind (specPutText k hk) (ev_pos (by omega) (ev_some rfl (ev_bind (specPutText t ht) (ev_pos (by omega) (ev_now rfl)))))))
  · rw [if_neg h]
    exact ev_neg h (ev_now rfl)
theorem implCmdBytes (w s o a b c : Int) (k t : ByteArray) (hk : k.size ≤ 1048576) (ht : t.size ≤ 1048576) : Ev (fun m => impl_CmdBytes.f m w s o a b c k t) (cmdBytes w s o a b c k t) := by
  have h1 := cmdNums_len w s o a b c
  have h2 := putText_len k
  have h3 := putText_len t
  refine ev_bind (implCmd w s o a b c k t (by unfold maxLen; omega) (by unfold maxLen; omega)) ?_
  unfold cmdBytes
  by_cases h : cmdOk w s o a b c k t = true
  · rw [if_pos h]
    have n : Ev (fun m => impl_nums.f m [wrap64 (w + 1), s, o, a, b, c]) (cmdNums w s o a b c) := implNums _ (by simp)
    have e : slices_Concat_byte_byte.f [cmdNums w s o a b c, putText k, putText t] = some (cmdNums w s o a b c ++ putText k ++ putText t) := by
      have f : ([cmdNums w s o a b c, putText k, putText t] : List (List Int)).flatten = cmdNums w s o a b c ++ putText k ++ putText t := by simp
      unfold slices_Concat_byte_byte.f
      rw [f, if_pos (by simp only [List.length_append]; omega)]
    exact ev_pos h (ev_bind n (ev_bind (implPutText k hk) (ev_bind (implPutText t ht) (ev_some e (ev_now rfl)))))
  · rw [if_neg h]
    exact ev_neg h (ev_now rfl)
end Go.Proofs.Ytgkeapbeogmfjaa.L

/- FnExactCmdBytes as a plain statement: proved for all arguments. -/
namespace Go.Proofs.Ytgkeapbeogmfjaa.Pure
open Go.RowKit Go.Proofs.YtgkeapbeogmfjaaW.PrintWords Go.Proofs.YtgkeapbeogmfjaaW.PrintLast Go.Proofs.YtgkeapbeogmfjaaW.PrintMore Go.Proofs.Ytgkeapbeogmfjaa.Q Go.Proofs.Ytgkeapbeogmfjaa.L

theorem FnExactCmdBytes (w s o a b c : Int) (k t : ByteArray) (_ : (Lit.int .i64 w).wf = true) (_ : (Lit.int .i64 s).wf = true) (_ : (Lit.int .i64 o).wf = true) (_ : (Lit.int .i64 a).wf = true) (_ : (Lit.int .i64 b).wf = true) (_ : (Lit.int .i64 c).wf = true) (hk : k.size ≤ maxLen) (ht : t.size ≤ maxLen) :
    ∃ m, laws_FnExactCmdBytes.f m w s o a b c k t = some true := by
  unfold maxLen at hk ht
  refine Ev.rounds (g := fun m => laws_FnExactCmdBytes.f m w s o a b c k t) ?_
  obtain ⟨r, hr, hs⟩ : ∃ r, laws_szCmd.f w s o a b c k t 1048576 = some r ∧ (0 ≤ r → k.size + t.size ≤ 1048576) := by
    unfold laws_szCmd.f
    have e1 : wrap64 (1048576 - (k.size : Int)) = 1048576 - (k.size : Int) := w64 (by omega) (by omega)
    rw [e1]
    by_cases h1 : 1048576 - (k.size : Int) < 0
    · rw [if_pos h1]; exact ⟨_, rfl, by omega⟩
    · have e2 : wrap64 (1048576 - (k.size : Int) - (t.size : Int)) = 1048576 - (k.size : Int) - (t.size : Int) := w64 (by omega) (by omega)
      rw [if_neg h1, e2]
      by_cases h2 : 1048576 - (k.size : Int) - (t.size : Int) < 0
      · rw [if_pos h2]; exact ⟨_, rfl, by omega⟩
      · rw [if_neg h2]; exact ⟨_, rfl, by omega⟩
  refine ev_some hr (ev_ite (fun _ => ev_now rfl) (fun h => ?_))
  have hz := hs (by omega)
  have h1 : k.size ≤ 1048576 := by omega
  have h2 : t.size ≤ 1048576 := by omega
  have e1 := specCmdBytes w s o a b c k t h1 h2
  have e2 := implCmdBytes w s o a b c k t h1 h2
  have hl := cmdBytes_len w s o a b c k t
  generalize cmdBytes w s o a b c k t = v at e1 e2 hl
  have hv : v.length ≤ 2097152 := by omega
  refine ev_step (fun _ => by rw [laws_FnExactCmdBytes.j0]) ?_
  refine ev_some rfl (ev_bind e1 (ev_some rfl (ev_bind e2 (ev_bind (eqByteS v hv) (ev_pos rfl ?_)))))
  refine ev_step (fun _ => by rw [laws_FnExactCmdBytes.j1]) ?_
  refine ev_bind (markByteS v hv) (ev_bind (heldByteS v.length hv) (ev_neg (by omega) ?_))
  refine ev_step (fun _ => by rw [laws_FnExactCmdBytes.j2]) ?_
  refine ev_pos rfl ?_
  refine ev_step (fun _ => by rw [laws_FnExactCmdBytes.j3]) ?_
  refine ev_some rfl (ev_bind e2 (ev_bind (eqByteS v hv) (ev_pos rfl ?_)))
  refine ev_step (fun _ => by rw [laws_FnExactCmdBytes.j4]) ?_
  exact ev_bind (heldByteS v.length hv) (ev_neg (by omega) (ev_pos rfl (ev_now rfl)))
end Go.Proofs.Ytgkeapbeogmfjaa.Pure

/- The law FnExactCmdBytes: its statement holds, for all arguments. Made by a program of ours out of the plain theorem and the walk. No condition. -/
namespace Go.Proofs.Ytgkeapbeogmfjaa.fnExactCmdBytes
open Go.ChangeShapes Go.WideShapes Go.ChangeAt Go.RowKit Go.Proofs.YtgkeapbeogmfjaaW.PrintWords Go.Proofs.Ytgkeapbeogmfjaa.Q Go.Proofs.Ytgkeapbeogmfjaa.R
open Go.ChangeMaps (open_string shut_string)
set_option linter.unusedVariables false
theorem own : ownKnob Try.prog.godebug = none := by kernel_rfl
theorem laidOut : laidOutB Try.prog = true := by kernel_rfl
set_option maxRecDepth 100000 in
theorem lifted (os : Os) (started : os.Started) (H : Type) (enc : TypeId × Value → H) :
    ReturnsInHanded {} Try.checked os 10 .any (Rows.fnExactCmdBytesSpec.pre6 enc Try.prog Try.f10 Rows.fnExactCmdBytesRow.domain false) (Rows.fnExactCmdBytesSpec.post enc Try.prog Try.f10 false true false false) := by
  refine returnsInHanded_of_change_sized (C := Try.checked) own started (by kernel_rfl) Try.func10
    (ChangeSpec.witness6 (enc := enc) (C := Try.checked) false ⟨#[], #[.agg #[.int .i64 0, .int .i64 0, .int .i64 0, .int .i64 0, .int .i64 0, .int .i64 0, .string ByteArray.empty, .string ByteArray.empty]], []⟩ 8 (by kernel_rfl) (by kernel_rfl) (by kernel_rfl) (by kernel_rfl)) ?_
  intro W base args ds gs before hval0 hW hcnd hsz0 _
  have hval : ∀ (j : Nat) t v, Try.f10.params[j]? = some t → args[j]? = some v → Value.okWide Try.prog W .any base t v := hval0
  have hW' := hW
  obtain ⟨p, q, hA0, hV, rfl, hfz, hnd⟩ := hW
  have hA : DataW.TrodAll enc Try.prog W 0 (fun _ => true) true Try.f10.params.toList args.toList ds p := hA0
  rw [Try.params10] at hA hval
  obtain ⟨v0, vs0, d0, ds0, p0, q0, hargs, rfl, rfl, h0, r0⟩ := trodAll_cons hA
  obtain ⟨rfl, rfl, rfl⟩ := trodAll_nil r0
  obtain rfl : args = #[v0] := by cases args; simp_all
  obtain ⟨rfl, rfl⟩ := trodVars_none hV
  have k0 := h0
  have lt0 : ∀ x ∈ p0, x.block < W.heap.size := by obtain ⟨m, hm⟩ := k0; exact DataW.trod_lt m _ _ _ hm
  obtain ⟨cs0, rfl, hsz0⟩ := okWide_struct Try.underlying80 (hval 0 80 v0 rfl rfl)
  obtain ⟨fuel0, hf0⟩ := h0
  obtain ⟨a0_0, a0_1, a0_2, a0_3, a0_4, a0_5, a0_6, a0_7, hz0, w0_0, w0_1, w0_2, w0_3, w0_4, w0_5, w0_6, w0_7⟩ := open_LCmd (cs := cs0.toList) hf0
  obtain rfl : cs0 = #[.int .i64 a0_0, .int .i64 a0_1, .int .i64 a0_2, .int .i64 a0_3, .int .i64 a0_4, .int .i64 a0_5, .string a0_6, .string a0_7] := by apply Array.toList_inj.mp; exact hz0
  clear hA0 hval0 hsz0
  obtain ⟨k, hk⟩ := Pure.FnExactCmdBytes a0_0 a0_1 a0_2 a0_3 a0_4 a0_5 a0_6 a0_7 w0_0 w0_1 w0_2 w0_3 w0_4 w0_5 w0_6 w0_7
  refine (laws_FnExactCmdBytes.calls (w := W)  (h := hk)).mono fun e W' he => ?_
  obtain ⟨rfl, bel0⟩ := he
  have bel : Below W.heap.size W W' := by first | exact bel0 | exact Drawn0.below bel0
  exact ⟨_, rfl, _, _, _, [], _, [], hW', trodAll_mk1 (shut_bool Try.underlying4 _), (trodAll_cons_mk (Below.trod laidOut (by kernel_rfl) (of_decide_eq_true (by kernel_rfl)) k0 bel lt0) trodAll_mk0), rfl, bel.frame _, fun h => by cases h⟩
theorem over : Rows.fnExactCmdBytesRow.holds Try.pinned (OpenSpec.ofChange Rows.fnExactCmdBytesSpec) :=
  OpenClaim.holds_of_wide 10 Try.f10 rfl rfl rfl rfl rfl rfl rfl ⟨rfl, rfl, rfl, rfl, rfl⟩ rfl rfl rfl rfl rfl (by kernel_rfl) Try.func10 (by kernel_rfl)
    (of_decide_eq_true (by kernel_rfl)) (by unfold Func.isWrapper; first | (rw [if_pos (by decide +kernel)]; kernel_rfl) | (rw [if_neg (by decide +kernel)]; exact ⟨rfl, rfl⟩))
    (fun os started H enc _ => lifted os started H enc)
end Go.Proofs.Ytgkeapbeogmfjaa.fnExactCmdBytes
namespace Go.Proofs.Ytgkeapbeogmfjaa
/-- The row, under a short name, for the claim. -/
theorem fnExactCmdBytes_holds : Rows.FnExactCmdBytesSaid := fnExactCmdBytes.over
#print axioms fnExactCmdBytes_holds
end Go.Proofs.Ytgkeapbeogmfjaa

