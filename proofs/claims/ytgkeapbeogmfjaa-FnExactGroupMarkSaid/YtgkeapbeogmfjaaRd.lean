/- How the laws' arguments of this seat are opened: what is read as data has the cells that the walks want. No condition. -/
import Derived.Test.YtgkeapbeogmfjaaR0
import Derived.Test.YtgkeapbeogmfjaaQ0
namespace Go.Proofs.Ytgkeapbeogmfjaa.R
open Go.RowKit Go.Proofs.YtgkeapbeogmfjaaW.PrintWords Go.WideShapes Go.Proofs.Ytgkeapbeogmfjaa.Q
set_option linter.unusedVariables false
theorem cells_2 {cs : List Value} (h : cs.length = 2) : ∃ z0 z1, cs = [z0, z1] := by
  match cs, h with
  | [y0, y1], _ => exact ⟨y0, y1, rfl⟩
theorem cells_3 {cs : List Value} (h : cs.length = 3) : ∃ z0 z1 z2, cs = [z0, z1, z2] := by
  match cs, h with
  | [y0, y1, y2], _ => exact ⟨y0, y1, y2, rfl⟩
theorem cells_4 {cs : List Value} (h : cs.length = 4) : ∃ z0 z1 z2 z3, cs = [z0, z1, z2, z3] := by
  match cs, h with
  | [y0, y1, y2, y3], _ => exact ⟨y0, y1, y2, y3, rfl⟩
theorem cells_5 {cs : List Value} (h : cs.length = 5) : ∃ z0 z1 z2 z3 z4, cs = [z0, z1, z2, z3, z4] := by
  match cs, h with
  | [y0, y1, y2, y3, y4], _ => exact ⟨y0, y1, y2, y3, y4, rfl⟩
def WF_LItem (x : S_LItem) : Prop := ((Lit.int .i64 x.f0).wf = true) ∧ (x.f1.size ≤ maxLen) ∧ (x.f2.size ≤ maxLen) ∧ ((Lit.int .i64 x.f3).wf = true) ∧ ((Lit.int .i64 x.f4).wf = true)
theorem rd_LItem : Rd Try.prog 151 k_LItem WF_LItem := by
  intro H enc W base spare held fuel cs x h
  obtain ⟨hl, n, hf⟩ := rd_fields Try.underlying151 h
  have hl' : cs.length = 5 := hl.trans (by kernel_rfl)
  obtain ⟨z0, z1, z2, z3, z4, rfl⟩ := cells_5 hl'
  have cc3 : Try.prog.cellsOf 3 = 1 := by kernel_rfl
  have cc9 : Try.prog.cellsOf 9 = 1 := by kernel_rfl
  obtain ⟨e0, he0⟩ := hf 0 _ rfl
  have hc0 : DataW.trod enc Try.prog W base spare held n 3 [z0] = some e0 := by simpa [cc3] using he0
  obtain ⟨b0, hk0, w0⟩ := (rd_int Try.underlying3) H enc W base spare held n [z0] _ hc0
  obtain rfl : z0 = .int .i64 b0 := by injection hk0
  obtain ⟨e1, he1⟩ := hf 1 _ rfl
  have hc1 : DataW.trod enc Try.prog W base spare held n 9 [z1] = some e1 := by simpa [cc9] using he1
  obtain ⟨b1, hk1, w1⟩ := (rd_string Try.underlying9) H enc W base spare held n [z1] _ hc1
  obtain rfl : z1 = .string b1 := by injection hk1
  obtain ⟨e2, he2⟩ := hf 2 _ rfl
  have hc2 : DataW.trod enc Try.prog W base spare held n 9 [z2] = some e2 := by simpa [cc9] using he2
  obtain ⟨b2, hk2, w2⟩ := (rd_string Try.underlying9) H enc W base spare held n [z2] _ hc2
  obtain rfl : z2 = .string b2 := by injection hk2
  obtain ⟨e3, he3⟩ := hf 3 _ rfl
  have hc3 : DataW.trod enc Try.prog W base spare held n 3 [z3] = some e3 := by simpa [cc3] using he3
  obtain ⟨b3, hk3, w3⟩ := (rd_int Try.underlying3) H enc W base spare held n [z3] _ hc3
  obtain rfl : z3 = .int .i64 b3 := by injection hk3
  obtain ⟨e4, he4⟩ := hf 4 _ rfl
  have hc4 : DataW.trod enc Try.prog W base spare held n 3 [z4] = some e4 := by simpa [cc3] using he4
  obtain ⟨b4, hk4, w4⟩ := (rd_int Try.underlying3) H enc W base spare held n [z4] _ hc4
  obtain rfl : z4 = .int .i64 b4 := by injection hk4
  exact ⟨⟨b0, b1, b2, b3, b4⟩, k_LItem_mk W ⟨b0, b1, b2, b3, b4⟩ , ⟨w0, w1, w2, w3, w4⟩⟩
theorem open_LRow {H : Type} {enc : TypeId × Value → H} {W : World} {base : Nat} {spare : Nat → Bool} {held : Bool} {fuel : Nat} {cs : List Value} {x : DataW H × List MemPlace} (h : DataW.trod enc Try.prog W base spare held fuel 33 cs = some x) :
    ∃ (b0 : Int) (b1 : Int) (b2 : List S_LItem) (A2 : Option Addr) (c2 : Nat), cs = [.int .i64 b0, .int .i64 b1, .slice A2 b2.length c2] ∧ ((Lit.int .i64 b0).wf = true) ∧ ((Lit.int .i64 b1).wf = true) ∧ (b2.length ≤ maxLen ∧ ∀ y ∈ b2, WF_LItem y) ∧ b2.length ≤ c2 ∧ Kd.C k_LItem W A2 b2.length b2 := by
  obtain ⟨hl, n, hf⟩ := rd_fields Try.underlying33 h
  have hl' : cs.length = 3 := hl.trans (by kernel_rfl)
  obtain ⟨z0, z1, z2, rfl⟩ := cells_3 hl'
  have cc3 : Try.prog.cellsOf 3 = 1 := by kernel_rfl
  have cc31 : Try.prog.cellsOf 31 = 1 := by kernel_rfl
  obtain ⟨e0, he0⟩ := hf 0 _ rfl
  have hc0 : DataW.trod enc Try.prog W base spare held n 3 [z0] = some e0 := by simpa [cc3] using he0
  obtain ⟨b0, hk0, w0⟩ := (rd_int Try.underlying3) H enc W base spare held n [z0] _ hc0
  obtain rfl : z0 = .int .i64 b0 := by injection hk0
  obtain ⟨e1, he1⟩ := hf 1 _ rfl
  have hc1 : DataW.trod enc Try.prog W base spare held n 3 [z1] = some e1 := by simpa [cc3] using he1
  obtain ⟨b1, hk1, w1⟩ := (rd_int Try.underlying3) H enc W base spare held n [z1] _ hc1
  obtain rfl : z1 = .int .i64 b1 := by injection hk1
  obtain ⟨e2, he2⟩ := hf 2 _ rfl
  have hc2 : DataW.trod enc Try.prog W base spare held n 31 [z2] = some e2 := by simpa [cc31] using he2
  obtain ⟨b2, hk2, w2⟩ := (rd_slice Try.underlying31 (by kernel_rfl) rd_LItem) H enc W base spare held n [z2] _ hc2
  obtain ⟨A2, c2, hz2, l2, g2⟩ := hk2
  obtain rfl : z2 = .slice A2 b2.length c2 := by injection hz2
  exact ⟨b0, b1, b2, A2, c2, rfl, w0, w1, w2, l2, g2⟩
theorem open_LGroup {H : Type} {enc : TypeId × Value → H} {W : World} {base : Nat} {spare : Nat → Bool} {held : Bool} {fuel : Nat} {cs : List Value} {x : DataW H × List MemPlace} (h : DataW.trod enc Try.prog W base spare held fuel 24 cs = some x) :
    ∃ (b0 : Int) (b1 : List Int) (b2 : List Int) (b3 : List Int) (A1 : Option Addr) (c1 : Nat) (A2 : Option Addr) (c2 : Nat) (A3 : Option Addr) (c3 : Nat), cs = [.int .i64 b0, .slice A1 b1.length c1, .slice A2 b2.length c2, .slice A3 b3.length c3] ∧ ((Lit.int .i64 b0).wf = true) ∧ (b1.length ≤ maxLen ∧ ∀ y ∈ b1, (Lit.int .i64 y).wf = true) ∧ (b2.length ≤ maxLen ∧ ∀ y ∈ b2, (Lit.int .i64 y).wf = true) ∧ (b3.length ≤ maxLen ∧ ∀ y ∈ b3, (Lit.int .i64 y).wf = true) ∧ b1.length ≤ c1 ∧ Kd.C (Kd.int .i64) W A1 b1.length b1 ∧ b2.length ≤ c2 ∧ Kd.C (Kd.int .i64) W A2 b2.length b2 ∧ b3.length ≤ c3 ∧ Kd.C (Kd.int .i64) W A3 b3.length b3 := by
  obtain ⟨hl, n, hf⟩ := rd_fields Try.underlying24 h
  have hl' : cs.length = 4 := hl.trans (by kernel_rfl)
  obtain ⟨z0, z1, z2, z3, rfl⟩ := cells_4 hl'
  have cc3 : Try.prog.cellsOf 3 = 1 := by kernel_rfl
  have cc22 : Try.prog.cellsOf 22 = 1 := by kernel_rfl
  obtain ⟨e0, he0⟩ := hf 0 _ rfl
  have hc0 : DataW.trod enc Try.prog W base spare held n 3 [z0] = some e0 := by simpa [cc3] using he0
  obtain ⟨b0, hk0, w0⟩ := (rd_int Try.underlying3) H enc W base spare held n [z0] _ hc0
  obtain rfl : z0 = .int .i64 b0 := by injection hk0
  obtain ⟨e1, he1⟩ := hf 1 _ rfl
  have hc1 : DataW.trod enc Try.prog W base spare held n 22 [z1] = some e1 := by simpa [cc22] using he1
  obtain ⟨b1, hk1, w1⟩ := (rd_slice Try.underlying22 (by kernel_rfl) (rd_int Try.underlying3)) H enc W base spare held n [z1] _ hc1
  obtain ⟨A1, c1, hz1, l1, g1⟩ := hk1
  obtain rfl : z1 = .slice A1 b1.length c1 := by injection hz1
  obtain ⟨e2, he2⟩ := hf 2 _ rfl
  have hc2 : DataW.trod enc Try.prog W base spare held n 22 [z2] = some e2 := by simpa [cc22] using he2
  obtain ⟨b2, hk2, w2⟩ := (rd_slice Try.underlying22 (by kernel_rfl) (rd_int Try.underlying3)) H enc W base spare held n [z2] _ hc2
  obtain ⟨A2, c2, hz2, l2, g2⟩ := hk2
  obtain rfl : z2 = .slice A2 b2.length c2 := by injection hz2
  obtain ⟨e3, he3⟩ := hf 3 _ rfl
  have hc3 : DataW.trod enc Try.prog W base spare held n 22 [z3] = some e3 := by simpa [cc22] using he3
  obtain ⟨b3, hk3, w3⟩ := (rd_slice Try.underlying22 (by kernel_rfl) (rd_int Try.underlying3)) H enc W base spare held n [z3] _ hc3
  obtain ⟨A3, c3, hz3, l3, g3⟩ := hk3
  obtain rfl : z3 = .slice A3 b3.length c3 := by injection hz3
  exact ⟨b0, b1, b2, b3, A1, c1, A2, c2, A3, c3, rfl, w0, w1, w2, w3, l1, g1, l2, g2, l3, g3⟩
def WF_LMark (x : S_LMark) : Prop := ((Lit.int .i64 x.f0).wf = true) ∧ ((Lit.int .i64 x.f1).wf = true)
theorem rd_LMark : Rd Try.prog 154 k_LMark WF_LMark := by
  intro H enc W base spare held fuel cs x h
  obtain ⟨hl, n, hf⟩ := rd_fields Try.underlying154 h
  have hl' : cs.length = 2 := hl.trans (by kernel_rfl)
  obtain ⟨z0, z1, rfl⟩ := cells_2 hl'
  have cc3 : Try.prog.cellsOf 3 = 1 := by kernel_rfl
  obtain ⟨e0, he0⟩ := hf 0 _ rfl
  have hc0 : DataW.trod enc Try.prog W base spare held n 3 [z0] = some e0 := by simpa [cc3] using he0
  obtain ⟨b0, hk0, w0⟩ := (rd_int Try.underlying3) H enc W base spare held n [z0] _ hc0
  obtain rfl : z0 = .int .i64 b0 := by injection hk0
  obtain ⟨e1, he1⟩ := hf 1 _ rfl
  have hc1 : DataW.trod enc Try.prog W base spare held n 3 [z1] = some e1 := by simpa [cc3] using he1
  obtain ⟨b1, hk1, w1⟩ := (rd_int Try.underlying3) H enc W base spare held n [z1] _ hc1
  obtain rfl : z1 = .int .i64 b1 := by injection hk1
  exact ⟨⟨b0, b1⟩, k_LMark_mk W ⟨b0, b1⟩ , ⟨w0, w1⟩⟩
theorem open_LMaker {H : Type} {enc : TypeId × Value → H} {W : World} {base : Nat} {spare : Nat → Bool} {held : Bool} {fuel : Nat} {cs : List Value} {x : DataW H × List MemPlace} (h : DataW.trod enc Try.prog W base spare held fuel 48 cs = some x) :
    ∃ (b0 : Int) (b1 : Int) (b2 : Int) (b3 : Int) (b4 : List S_LMark) (A4 : Option Addr) (c4 : Nat), cs = [.int .i64 b0, .int .i64 b1, .int .i64 b2, .int .i64 b3, .slice A4 b4.length c4] ∧ ((Lit.int .i64 b0).wf = true) ∧ ((Lit.int .i64 b1).wf = true) ∧ ((Lit.int .i64 b2).wf = true) ∧ ((Lit.int .i64 b3).wf = true) ∧ (b4.length ≤ maxLen ∧ ∀ y ∈ b4, WF_LMark y) ∧ b4.length ≤ c4 ∧ Kd.C k_LMark W A4 b4.length b4 := by
  obtain ⟨hl, n, hf⟩ := rd_fields Try.underlying48 h
  have hl' : cs.length = 5 := hl.trans (by kernel_rfl)
  obtain ⟨z0, z1, z2, z3, z4, rfl⟩ := cells_5 hl'
  have cc3 : Try.prog.cellsOf 3 = 1 := by kernel_rfl
  have cc46 : Try.prog.cellsOf 46 = 1 := by kernel_rfl
  obtain ⟨e0, he0⟩ := hf 0 _ rfl
  have hc0 : DataW.trod enc Try.prog W base spare held n 3 [z0] = some e0 := by simpa [cc3] using he0
  obtain ⟨b0, hk0, w0⟩ := (rd_int Try.underlying3) H enc W base spare held n [z0] _ hc0
  obtain rfl : z0 = .int .i64 b0 := by injection hk0
  obtain ⟨e1, he1⟩ := hf 1 _ rfl
  have hc1 : DataW.trod enc Try.prog W base spare held n 3 [z1] = some e1 := by simpa [cc3] using he1
  obtain ⟨b1, hk1, w1⟩ := (rd_int Try.underlying3) H enc W base spare held n [z1] _ hc1
  obtain rfl : z1 = .int .i64 b1 := by injection hk1
  obtain ⟨e2, he2⟩ := hf 2 _ rfl
  have hc2 : DataW.trod enc Try.prog W base spare held n 3 [z2] = some e2 := by simpa [cc3] using he2
  obtain ⟨b2, hk2, w2⟩ := (rd_int Try.underlying3) H enc W base spare held n [z2] _ hc2
  obtain rfl : z2 = .int .i64 b2 := by injection hk2
  obtain ⟨e3, he3⟩ := hf 3 _ rfl
  have hc3 : DataW.trod enc Try.prog W base spare held n 3 [z3] = some e3 := by simpa [cc3] using he3
  obtain ⟨b3, hk3, w3⟩ := (rd_int Try.underlying3) H enc W base spare held n [z3] _ hc3
  obtain rfl : z3 = .int .i64 b3 := by injection hk3
  obtain ⟨e4, he4⟩ := hf 4 _ rfl
  have hc4 : DataW.trod enc Try.prog W base spare held n 46 [z4] = some e4 := by simpa [cc46] using he4
  obtain ⟨b4, hk4, w4⟩ := (rd_slice Try.underlying46 (by kernel_rfl) rd_LMark) H enc W base spare held n [z4] _ hc4
  obtain ⟨A4, c4, hz4, l4, g4⟩ := hk4
  obtain rfl : z4 = .slice A4 b4.length c4 := by injection hz4
  exact ⟨b0, b1, b2, b3, b4, A4, c4, rfl, w0, w1, w2, w3, w4, l4, g4⟩
end Go.Proofs.Ytgkeapbeogmfjaa.R
