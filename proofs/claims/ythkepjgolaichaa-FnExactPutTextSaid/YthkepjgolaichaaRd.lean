/- How the laws' arguments of this seat are opened: what is read as data has the cells that the walks want. No condition. -/
import Derived.Test.YthkepjgolaichaaR0
import Derived.Test.YthkepjgolaichaaQ0
namespace Go.Proofs.Ythkepjgolaichaa.R
open Go.RowKit Go.Proofs.YthkepjgolaichaaW.PrintWords Go.WideShapes Go.Proofs.Ythkepjgolaichaa.Q
set_option linter.unusedVariables false
theorem cells_4 {cs : List Value} (h : cs.length = 4) : ∃ z0 z1 z2 z3, cs = [z0, z1, z2, z3] := by
  match cs, h with
  | [y0, y1, y2, y3], _ => exact ⟨y0, y1, y2, y3, rfl⟩
theorem cells_8 {cs : List Value} (h : cs.length = 8) : ∃ z0 z1 z2 z3 z4 z5 z6 z7, cs = [z0, z1, z2, z3, z4, z5, z6, z7] := by
  match cs, h with
  | [y0, y1, y2, y3, y4, y5, y6, y7], _ => exact ⟨y0, y1, y2, y3, y4, y5, y6, y7, rfl⟩
theorem open_LSetup {H : Type} {enc : TypeId × Value → H} {W : World} {base : Nat} {spare : Nat → Bool} {held : Bool} {fuel : Nat} {cs : List Value} {x : DataW H × List MemPlace} (h : DataW.trod enc Try.prog W base spare held fuel 24 cs = some x) :
    ∃ (b0 : Int) (b1 : Int) (b2 : Int) (b3 : Int), cs = [.int .i64 b0, .int .i64 b1, .int .i64 b2, .int .i64 b3] ∧ ((Lit.int .i64 b0).wf = true) ∧ ((Lit.int .i64 b1).wf = true) ∧ ((Lit.int .i64 b2).wf = true) ∧ ((Lit.int .i64 b3).wf = true) := by
  obtain ⟨hl, n, hf⟩ := rd_fields Try.underlying24 h
  have hl' : cs.length = 4 := hl.trans (by kernel_rfl)
  obtain ⟨z0, z1, z2, z3, rfl⟩ := cells_4 hl'
  have cc3 : Try.prog.cellsOf 3 = 1 := by kernel_rfl
  obtain ⟨e0, he0⟩ := hf 0 _ rfl
  have hc0 : DataW.trod enc Try.prog W base spare held n 3 [z0] = some e0 := by simpa [cc3] using he0
  obtain ⟨b0, hk0, w0⟩ := (rd_int Try.underlying3) H enc W base spare held n [z0] _ hc0
  obtain rfl : z0 = .int .i64 b0 := by injection hk0
  obtain ⟨e1, he1⟩ := hf 1 _ rfl
  have hc1 : DataW.trod enc Try.prog W base spare held n 3 [z1] = some e1 := by simpa [cc3] using he1
  obtain ⟨b1, hk1, w1⟩ := (rd_int Try.underlying3) H enc W base spare held n [z1] _ hc1
  obtain rfl : z1 = .int .i64 b1 := by injection hk1
  obtain ⟨e2, he2⟩ := hf 2 _ rfl
  have hc2 : DataW.trod enc Try.prog W base spare held n 3 [z2] = some e2 := by simpa [cc3] using he2
  obtain ⟨b2, hk2, w2⟩ := (rd_int Try.underlying3) H enc W base spare held n [z2] _ hc2
  obtain rfl : z2 = .int .i64 b2 := by injection hk2
  obtain ⟨e3, he3⟩ := hf 3 _ rfl
  have hc3 : DataW.trod enc Try.prog W base spare held n 3 [z3] = some e3 := by simpa [cc3] using he3
  obtain ⟨b3, hk3, w3⟩ := (rd_int Try.underlying3) H enc W base spare held n [z3] _ hc3
  obtain rfl : z3 = .int .i64 b3 := by injection hk3
  exact ⟨b0, b1, b2, b3, rfl, w0, w1, w2, w3⟩
theorem open_LAnswer {H : Type} {enc : TypeId × Value → H} {W : World} {base : Nat} {spare : Nat → Bool} {held : Bool} {fuel : Nat} {cs : List Value} {x : DataW H × List MemPlace} (h : DataW.trod enc Try.prog W base spare held fuel 30 cs = some x) :
    ∃ (b0 : Int) (b1 : Int) (b2 : ByteArray) (b3 : ByteArray), cs = [.int .i64 b0, .int .i64 b1, .string b2, .string b3] ∧ ((Lit.int .i64 b0).wf = true) ∧ ((Lit.int .i64 b1).wf = true) ∧ (b2.size ≤ maxLen) ∧ (b3.size ≤ maxLen) := by
  obtain ⟨hl, n, hf⟩ := rd_fields Try.underlying30 h
  have hl' : cs.length = 4 := hl.trans (by kernel_rfl)
  obtain ⟨z0, z1, z2, z3, rfl⟩ := cells_4 hl'
  have cc3 : Try.prog.cellsOf 3 = 1 := by kernel_rfl
  have cc9 : Try.prog.cellsOf 9 = 1 := by kernel_rfl
  obtain ⟨e0, he0⟩ := hf 0 _ rfl
  have hc0 : DataW.trod enc Try.prog W base spare held n 3 [z0] = some e0 := by simpa [cc3] using he0
  obtain ⟨b0, hk0, w0⟩ := (rd_int Try.underlying3) H enc W base spare held n [z0] _ hc0
  obtain rfl : z0 = .int .i64 b0 := by injection hk0
  obtain ⟨e1, he1⟩ := hf 1 _ rfl
  have hc1 : DataW.trod enc Try.prog W base spare held n 3 [z1] = some e1 := by simpa [cc3] using he1
  obtain ⟨b1, hk1, w1⟩ := (rd_int Try.underlying3) H enc W base spare held n [z1] _ hc1
  obtain rfl : z1 = .int .i64 b1 := by injection hk1
  obtain ⟨e2, he2⟩ := hf 2 _ rfl
  have hc2 : DataW.trod enc Try.prog W base spare held n 9 [z2] = some e2 := by simpa [cc9] using he2
  obtain ⟨b2, hk2, w2⟩ := (rd_string Try.underlying9) H enc W base spare held n [z2] _ hc2
  obtain rfl : z2 = .string b2 := by injection hk2
  obtain ⟨e3, he3⟩ := hf 3 _ rfl
  have hc3 : DataW.trod enc Try.prog W base spare held n 9 [z3] = some e3 := by simpa [cc9] using he3
  obtain ⟨b3, hk3, w3⟩ := (rd_string Try.underlying9) H enc W base spare held n [z3] _ hc3
  obtain rfl : z3 = .string b3 := by injection hk3
  exact ⟨b0, b1, b2, b3, rfl, w0, w1, w2, w3⟩
theorem open_LCmd {H : Type} {enc : TypeId × Value → H} {W : World} {base : Nat} {spare : Nat → Bool} {held : Bool} {fuel : Nat} {cs : List Value} {x : DataW H × List MemPlace} (h : DataW.trod enc Try.prog W base spare held fuel 59 cs = some x) :
    ∃ (b0 : Int) (b1 : Int) (b2 : Int) (b3 : Int) (b4 : Int) (b5 : Int) (b6 : ByteArray) (b7 : ByteArray), cs = [.int .i64 b0, .int .i64 b1, .int .i64 b2, .int .i64 b3, .int .i64 b4, .int .i64 b5, .string b6, .string b7] ∧ ((Lit.int .i64 b0).wf = true) ∧ ((Lit.int .i64 b1).wf = true) ∧ ((Lit.int .i64 b2).wf = true) ∧ ((Lit.int .i64 b3).wf = true) ∧ ((Lit.int .i64 b4).wf = true) ∧ ((Lit.int .i64 b5).wf = true) ∧ (b6.size ≤ maxLen) ∧ (b7.size ≤ maxLen) := by
  obtain ⟨hl, n, hf⟩ := rd_fields Try.underlying59 h
  have hl' : cs.length = 8 := hl.trans (by kernel_rfl)
  obtain ⟨z0, z1, z2, z3, z4, z5, z6, z7, rfl⟩ := cells_8 hl'
  have cc3 : Try.prog.cellsOf 3 = 1 := by kernel_rfl
  have cc9 : Try.prog.cellsOf 9 = 1 := by kernel_rfl
  obtain ⟨e0, he0⟩ := hf 0 _ rfl
  have hc0 : DataW.trod enc Try.prog W base spare held n 3 [z0] = some e0 := by simpa [cc3] using he0
  obtain ⟨b0, hk0, w0⟩ := (rd_int Try.underlying3) H enc W base spare held n [z0] _ hc0
  obtain rfl : z0 = .int .i64 b0 := by injection hk0
  obtain ⟨e1, he1⟩ := hf 1 _ rfl
  have hc1 : DataW.trod enc Try.prog W base spare held n 3 [z1] = some e1 := by simpa [cc3] using he1
  obtain ⟨b1, hk1, w1⟩ := (rd_int Try.underlying3) H enc W base spare held n [z1] _ hc1
  obtain rfl : z1 = .int .i64 b1 := by injection hk1
  obtain ⟨e2, he2⟩ := hf 2 _ rfl
  have hc2 : DataW.trod enc Try.prog W base spare held n 3 [z2] = some e2 := by simpa [cc3] using he2
  obtain ⟨b2, hk2, w2⟩ := (rd_int Try.underlying3) H enc W base spare held n [z2] _ hc2
  obtain rfl : z2 = .int .i64 b2 := by injection hk2
  obtain ⟨e3, he3⟩ := hf 3 _ rfl
  have hc3 : DataW.trod enc Try.prog W base spare held n 3 [z3] = some e3 := by simpa [cc3] using he3
  obtain ⟨b3, hk3, w3⟩ := (rd_int Try.underlying3) H enc W base spare held n [z3] _ hc3
  obtain rfl : z3 = .int .i64 b3 := by injection hk3
  obtain ⟨e4, he4⟩ := hf 4 _ rfl
  have hc4 : DataW.trod enc Try.prog W base spare held n 3 [z4] = some e4 := by simpa [cc3] using he4
  obtain ⟨b4, hk4, w4⟩ := (rd_int Try.underlying3) H enc W base spare held n [z4] _ hc4
  obtain rfl : z4 = .int .i64 b4 := by injection hk4
  obtain ⟨e5, he5⟩ := hf 5 _ rfl
  have hc5 : DataW.trod enc Try.prog W base spare held n 3 [z5] = some e5 := by simpa [cc3] using he5
  obtain ⟨b5, hk5, w5⟩ := (rd_int Try.underlying3) H enc W base spare held n [z5] _ hc5
  obtain rfl : z5 = .int .i64 b5 := by injection hk5
  obtain ⟨e6, he6⟩ := hf 6 _ rfl
  have hc6 : DataW.trod enc Try.prog W base spare held n 9 [z6] = some e6 := by simpa [cc9] using he6
  obtain ⟨b6, hk6, w6⟩ := (rd_string Try.underlying9) H enc W base spare held n [z6] _ hc6
  obtain rfl : z6 = .string b6 := by injection hk6
  obtain ⟨e7, he7⟩ := hf 7 _ rfl
  have hc7 : DataW.trod enc Try.prog W base spare held n 9 [z7] = some e7 := by simpa [cc9] using he7
  obtain ⟨b7, hk7, w7⟩ := (rd_string Try.underlying9) H enc W base spare held n [z7] _ hc7
  obtain rfl : z7 = .string b7 := by injection hk7
  exact ⟨b0, b1, b2, b3, b4, b5, b6, b7, rfl, w0, w1, w2, w3, w4, w5, w6, w7⟩
theorem open_LGroup {H : Type} {enc : TypeId × Value → H} {W : World} {base : Nat} {spare : Nat → Bool} {held : Bool} {fuel : Nat} {cs : List Value} {x : DataW H × List MemPlace} (h : DataW.trod enc Try.prog W base spare held fuel 69 cs = some x) :
    ∃ (b0 : Int) (b1 : List Int) (b2 : List Int) (b3 : List Int) (A1 : Option Addr) (c1 : Nat) (A2 : Option Addr) (c2 : Nat) (A3 : Option Addr) (c3 : Nat), cs = [.int .i64 b0, .slice A1 b1.length c1, .slice A2 b2.length c2, .slice A3 b3.length c3] ∧ ((Lit.int .i64 b0).wf = true) ∧ (b1.length ≤ maxLen ∧ ∀ y ∈ b1, (Lit.int .i64 y).wf = true) ∧ (b2.length ≤ maxLen ∧ ∀ y ∈ b2, (Lit.int .i64 y).wf = true) ∧ (b3.length ≤ maxLen ∧ ∀ y ∈ b3, (Lit.int .i64 y).wf = true) ∧ b1.length ≤ c1 ∧ Kd.C (Kd.int .i64) W A1 b1.length b1 ∧ b2.length ≤ c2 ∧ Kd.C (Kd.int .i64) W A2 b2.length b2 ∧ b3.length ≤ c3 ∧ Kd.C (Kd.int .i64) W A3 b3.length b3 := by
  obtain ⟨hl, n, hf⟩ := rd_fields Try.underlying69 h
  have hl' : cs.length = 4 := hl.trans (by kernel_rfl)
  obtain ⟨z0, z1, z2, z3, rfl⟩ := cells_4 hl'
  have cc3 : Try.prog.cellsOf 3 = 1 := by kernel_rfl
  have cc67 : Try.prog.cellsOf 67 = 1 := by kernel_rfl
  obtain ⟨e0, he0⟩ := hf 0 _ rfl
  have hc0 : DataW.trod enc Try.prog W base spare held n 3 [z0] = some e0 := by simpa [cc3] using he0
  obtain ⟨b0, hk0, w0⟩ := (rd_int Try.underlying3) H enc W base spare held n [z0] _ hc0
  obtain rfl : z0 = .int .i64 b0 := by injection hk0
  obtain ⟨e1, he1⟩ := hf 1 _ rfl
  have hc1 : DataW.trod enc Try.prog W base spare held n 67 [z1] = some e1 := by simpa [cc67] using he1
  obtain ⟨b1, hk1, w1⟩ := (rd_slice Try.underlying67 (by kernel_rfl) (rd_int Try.underlying3)) H enc W base spare held n [z1] _ hc1
  obtain ⟨A1, c1, hz1, l1, g1⟩ := hk1
  obtain rfl : z1 = .slice A1 b1.length c1 := by injection hz1
  obtain ⟨e2, he2⟩ := hf 2 _ rfl
  have hc2 : DataW.trod enc Try.prog W base spare held n 67 [z2] = some e2 := by simpa [cc67] using he2
  obtain ⟨b2, hk2, w2⟩ := (rd_slice Try.underlying67 (by kernel_rfl) (rd_int Try.underlying3)) H enc W base spare held n [z2] _ hc2
  obtain ⟨A2, c2, hz2, l2, g2⟩ := hk2
  obtain rfl : z2 = .slice A2 b2.length c2 := by injection hz2
  obtain ⟨e3, he3⟩ := hf 3 _ rfl
  have hc3 : DataW.trod enc Try.prog W base spare held n 67 [z3] = some e3 := by simpa [cc67] using he3
  obtain ⟨b3, hk3, w3⟩ := (rd_slice Try.underlying67 (by kernel_rfl) (rd_int Try.underlying3)) H enc W base spare held n [z3] _ hc3
  obtain ⟨A3, c3, hz3, l3, g3⟩ := hk3
  obtain rfl : z3 = .slice A3 b3.length c3 := by injection hz3
  exact ⟨b0, b1, b2, b3, A1, c1, A2, c2, A3, c3, rfl, w0, w1, w2, w3, l1, g1, l2, g2, l3, g3⟩
end Go.Proofs.Ythkepjgolaichaa.R
