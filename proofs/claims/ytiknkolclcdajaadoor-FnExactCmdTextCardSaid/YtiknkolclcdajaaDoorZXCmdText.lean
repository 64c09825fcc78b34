/- The law FnExactCmdText holds, for all arguments: its row, and behind it the plain side of what the program and the reference compute. Conditions: those that each theorem states; the row has none. -/
import Derived.Test.YtiknkolclcdajaaDoorRows
import Derived.Test.YtiknkolclcdajaaDoorCards
import Derived.Test.YtiknkolclcdajaaDoorTie
import Derived.Deep.Slices
import Derived.ChangeArms
import Derived.WideShapes
import Derived.Lib.ItoaNum
import Derived.Lib.ItoaLen
import Derived.Shelf.LaysM
import Derived.Shelf.Strconv.Itoa3
import Derived.Test.YtiknkolclcdajaaDoorProg
import Derived.Lib.AppendIntMem
import Derived.Below
import Derived.WalkKit
import Derived.BigCall
import Derived.Shelf.Strings.Builder1
import Derived.Shelf.Strings.Builder2
import Derived.Shelf.Strings.OnBuilder
import Derived.ProofKit
import Derived.LaidMore
import Derived.OpenShut
import Derived.ShutString
import Derived.Stop.Joined
import Derived.Carry
import Derived.SizedLaws
import Derived.SevenTiedAt
import Derived.Test.YtiknkolclcdajaaDoorZXCmdText0
import Derived.Test.YtiknkolclcdajaaDoorZXCmdTexta
/- What is read as data is of a printed kind: whole numbers, texts, structs of one-cell fields, slices. For the laws' rows. No condition. -/
namespace Go.Proofs.YtiknkolclcdajaaDoor.R
open Go.RowKit Go.Proofs.YtiknkolclcdajaaDoorW.PrintWords Go.WideShapes

/-- Whatever is read as data of type t has cells that are of kind d. -/
def Rd {α : Type} (P : Program) (t : TypeId) (d : Kd α) (wf : α → Prop) : Prop :=
  ∀ (H : Type) (enc : TypeId × Value → H) (W : World) (base : Nat) (spare : Nat → Bool) (held : Bool) (fuel : Nat) (cs : List Value) (x : DataW H × List MemPlace),
    DataW.trod enc P W base spare held fuel t cs = some x → ∃ a, d.K W a cs ∧ wf a
theorem rd_int {P : Program} {t : TypeId} {k : IntKind} (ht : P.underlying t = some (.int k)) : Rd P t (Kd.int k) (fun n => (Lit.int k n).wf = true) := by
  intro H enc W base spare held fuel cs x h
  obtain ⟨n, rfl, _, hw⟩ := DataW.trod_int ht h
  exact ⟨n, rfl, hw⟩
theorem rd_string {P : Program} {t : TypeId} (ht : P.underlying t = some .string) : Rd P t Kd.string (fun s => s.size ≤ maxLen) := by
  intro H enc W base spare held fuel cs x h
  obtain ⟨s, rfl, _, hw⟩ := DataW.trod_string ht h
  exact ⟨s, rfl, hw⟩
theorem rd_slice {α : Type} {P : Program} {t e : TypeId} {d : Kd α} {wf : α → Prop} (ht : P.underlying t = some (.slice e)) (hs : P.cellsOf e = d.sz) (hr : Rd P e d wf) :
    Rd P t (Kd.slice e d) (fun xs => xs.length ≤ maxLen ∧ ∀ x ∈ xs, wf x) := by
  intro H enc W base spare held fuel cs x h
  rcases Go.Deep.open_slice ht h with ⟨rfl, _⟩ | ⟨a, len, cap, m, n, D, Pl, rfl, hb, hl, hm, hmm, _, hx⟩
  · exact ⟨[], ⟨none, 0, rfl, Nat.le_refl _, rfl, by simp, fun h0 => absurd h0 (by simp)⟩, by simp, by simp⟩
  · have hml : len ≤ m := by rw [hmm]; split <;> omega
    have key : ∀ i, i < len → ∃ p : α, wf p ∧ ∃ c, c.length = d.sz ∧ d.K W p c ∧ ∀ q u, c[q]? = some u → W.cell? (a.add (i * d.sz + q)) = some u := by
      intro i hi
      obtain ⟨cs', h1, h2⟩ := hx i (by omega)
      obtain ⟨p, hp, hw⟩ := hr H enc W base spare held n cs' _ h2
      obtain ⟨_, hlen, hc⟩ := World.cells?_some h1
      rw [hs] at hlen hc
      refine ⟨p, hw, cs', hlen, hp, fun q u hq => ?_⟩
      have hq' : q < d.sz := by
        have := (List.getElem?_eq_some_iff.1 hq).1
        omega
      rw [← hq, ← hc q hq', Go.Deep.add_add]
    have key2 : ∃ f : Nat → Option α, ∀ i, i < len → ∃ p, f i = some p ∧ wf p ∧ ∃ c, c.length = d.sz ∧ d.K W p c ∧ ∀ q u, c[q]? = some u → W.cell? (a.add (i * d.sz + q)) = some u := by
      classical
      refine ⟨fun i => if hi : i < len then some (Classical.choose (key i hi)) else none, fun i hi => ⟨Classical.choose (key i hi), by simp [hi], Classical.choose_spec (key i hi)⟩⟩
    obtain ⟨f, hf⟩ := key2
    have hlen : ∀ k, k ≤ len → ((List.range k).filterMap f).length = k ∧ ∀ j, j < k → ((List.range k).filterMap f)[j]? = f j := by
      intro k
      induction k with
      | zero => intro _; exact ⟨rfl, fun j hj => absurd hj (by omega)⟩
      | succ k ih =>
        intro hk
        obtain ⟨i1, i2⟩ := ih (by omega)
        obtain ⟨p, hp, _⟩ := hf k (by omega)
        have e : (List.range (k + 1)).filterMap f = (List.range k).filterMap f ++ [p] := by rw [List.range_succ, List.filterMap_append]; simp [hp]
        refine ⟨by rw [e]; simp [i1], fun j hj => ?_⟩
        rw [e]
        rcases Nat.lt_or_ge j k with h1 | h1
        · rw [List.getElem?_append_left (by omega)]; exact i2 j h1
        · obtain rfl : j = k := by omega
          rw [List.getElem?_append_right (by omega), i1]; simp [hp]
    obtain ⟨i1, i2⟩ := hlen len (Nat.le_refl _)
    refine ⟨(List.range len).filterMap f, ⟨some a, cap, by rw [i1], by rw [i1]; exact hl, rfl, by rw [i1]; simp only [maxLen] at hm; omega, fun _ => ⟨a, rfl, fun j p hj => ?_⟩⟩, by rw [i1]; omega, fun p hp => ?_⟩
    · have hj' : j < len := by
        have := (List.getElem?_eq_some_iff.1 hj).1
        omega
      obtain ⟨p', hp', _, hc⟩ := hf j hj'
      rw [i2 j hj', hp'] at hj
      cases hj
      exact hc
    · obtain ⟨i, hi, hfi⟩ := List.mem_filterMap.1 hp
      obtain ⟨p', hp', hw, _⟩ := hf i (by simpa using hi)
      rw [hp'] at hfi
      cases hfi
      exact hw
/-- The fields of a struct, each of one cell, cell by cell. -/
theorem rd_fields {H : Type} {enc : TypeId × Value → H} {P : Program} {W : World} {base : Nat} {spare : Nat → Bool} {held : Bool} {fuel : Nat} {t : TypeId} {fs : Array Field} {cs : List Value} {x : DataW H × List MemPlace}
    (ht : P.underlying t = some (.struct fs)) (h : DataW.trod enc P W base spare held fuel t cs = some x) : cs.length = P.cellsOf t ∧ ∃ n, ∀ (i : Nat) (f : Field), fs[i]? = some f → ∃ y, DataW.trod enc P W base spare held n f.type ((cs.drop f.offset).take (P.cellsOf f.type)) = some y := by
  obtain ⟨xs, n, _, _, hl, hlen, hf⟩ := DataW.trod_struct ht h
  refine ⟨hl, n, fun i f hi => ?_⟩
  have hi' : i < xs.length := by
    rw [hlen]
    exact (Array.getElem?_eq_some_iff.1 hi).1
  exact ⟨xs[i], by rw [hf i f hi, List.getElem?_eq_getElem hi']⟩
end Go.Proofs.YtiknkolclcdajaaDoor.R

/- How the laws' arguments of this seat are opened: what is read as data has the cells that the walks want. No condition. -/
namespace Go.Proofs.YtiknkolclcdajaaDoor.R
open Go.RowKit Go.Proofs.YtiknkolclcdajaaDoorW.PrintWords Go.WideShapes Go.Proofs.YtiknkolclcdajaaDoor.Q
set_option linter.unusedVariables false
theorem cells_8 {cs : List Value} (h : cs.length = 8) : ∃ z0 z1 z2 z3 z4 z5 z6 z7, cs = [z0, z1, z2, z3, z4, z5, z6, z7] := by
  match cs, h with
  | [y0, y1, y2, y3, y4, y5, y6, y7], _ => exact ⟨y0, y1, y2, y3, y4, y5, y6, y7, rfl⟩
theorem open_LCmd {H : Type} {enc : TypeId × Value → H} {W : World} {base : Nat} {spare : Nat → Bool} {held : Bool} {fuel : Nat} {cs : List Value} {x : DataW H × List MemPlace} (h : DataW.trod enc Tryd.prog W base spare held fuel 25 cs = some x) :
    ∃ (b0 : Int) (b1 : Int) (b2 : Int) (b3 : Int) (b4 : Int) (b5 : Int) (b6 : ByteArray) (b7 : ByteArray), cs = [.int .i64 b0, .int .i64 b1, .int .i64 b2, .int .i64 b3, .int .i64 b4, .int .i64 b5, .string b6, .string b7] ∧ ((Lit.int .i64 b0).wf = true) ∧ ((Lit.int .i64 b1).wf = true) ∧ ((Lit.int .i64 b2).wf = true) ∧ ((Lit.int .i64 b3).wf = true) ∧ ((Lit.int .i64 b4).wf = true) ∧ ((Lit.int .i64 b5).wf = true) ∧ (b6.size ≤ maxLen) ∧ (b7.size ≤ maxLen) := by
  obtain ⟨hl, n, hf⟩ := rd_fields Tryd.underlying25 h
  have hl' : cs.length = 8 := hl.trans (by kernel_rfl)
  obtain ⟨z0, z1, z2, z3, z4, z5, z6, z7, rfl⟩ := cells_8 hl'
  have cc3 : Tryd.prog.cellsOf 3 = 1 := by kernel_rfl
  have cc9 : Tryd.prog.cellsOf 9 = 1 := by kernel_rfl
  obtain ⟨e0, he0⟩ := hf 0 _ rfl
  have hc0 : DataW.trod enc Tryd.prog W base spare held n 3 [z0] = some e0 := by simpa [cc3] using he0
  obtain ⟨b0, hk0, w0⟩ := (rd_int Tryd.underlying3) H enc W base spare held n [z0] _ hc0
  obtain rfl : z0 = .int .i64 b0 := by injection hk0
  obtain ⟨e1, he1⟩ := hf 1 _ rfl
  have hc1 : DataW.trod enc Tryd.prog W base spare held n 3 [z1] = some e1 := by simpa [cc3] using he1
  obtain ⟨b1, hk1, w1⟩ := (rd_int Tryd.underlying3) H enc W base spare held n [z1] _ hc1
  obtain rfl : z1 = .int .i64 b1 := by injection hk1
  obtain ⟨e2, he2⟩ := hf 2 _ rfl
  have hc2 : DataW.trod enc Tryd.prog W base spare held n 3 [z2] = some e2 := by simpa [cc3] using he2
  obtain ⟨b2, hk2, w2⟩ := (rd_int Tryd.underlying3) H enc W base spare held n [z2] _ hc2
  obtain rfl : z2 = .int .i64 b2 := by injection hk2
  obtain ⟨e3, he3⟩ := hf 3 _ rfl
  have hc3 : DataW.trod enc Tryd.prog W base spare held n 3 [z3] = some e3 := by simpa [cc3] using he3
  obtain ⟨b3, hk3, w3⟩ := (rd_int Tryd.underlying3) H enc W base spare held n [z3] _ hc3
  obtain rfl : z3 = .int .i64 b3 := by injection hk3
  obtain ⟨e4, he4⟩ := hf 4 _ rfl
  have hc4 : DataW.trod enc Tryd.prog W base spare held n 3 [z4] = some e4 := by simpa [cc3] using he4
  obtain ⟨b4, hk4, w4⟩ := (rd_int Tryd.underlying3) H enc W base spare held n [z4] _ hc4
  obtain rfl : z4 = .int .i64 b4 := by injection hk4
  obtain ⟨e5, he5⟩ := hf 5 _ rfl
  have hc5 : DataW.trod enc Tryd.prog W base spare held n 3 [z5] = some e5 := by simpa [cc3] using he5
  obtain ⟨b5, hk5, w5⟩ := (rd_int Tryd.underlying3) H enc W base spare held n [z5] _ hc5
  obtain rfl : z5 = .int .i64 b5 := by injection hk5
  obtain ⟨e6, he6⟩ := hf 6 _ rfl
  have hc6 : DataW.trod enc Tryd.prog W base spare held n 9 [z6] = some e6 := by simpa [cc9] using he6
  obtain ⟨b6, hk6, w6⟩ := (rd_string Tryd.underlying9) H enc W base spare held n [z6] _ hc6
  obtain rfl : z6 = .string b6 := by injection hk6
  obtain ⟨e7, he7⟩ := hf 7 _ rfl
  have hc7 : DataW.trod enc Tryd.prog W base spare held n 9 [z7] = some e7 := by simpa [cc9] using he7
  obtain ⟨b7, hk7, w7⟩ := (rd_string Tryd.underlying9) H enc W base spare held n [z7] _ hc7
  obtain rfl : z7 = .string b7 := by injection hk7
  exact ⟨b0, b1, b2, b3, b4, b5, b6, b7, rfl, w0, w1, w2, w3, w4, w5, w6, w7⟩
end Go.Proofs.YtiknkolclcdajaaDoor.R

/- The reference's digits of a whole number are its decimal numeral. Condition: a whole number of 64 bits. -/
namespace Go.Proofs.YtiknkolclcdajaaDoor.Pure
open Go.RowKit Go.Proofs.YtiknkolclcdajaaDoorW.PrintWords Go.Proofs.YtiknkolclcdajaaDoorW.PrintLast Go.Proofs.YtiknkolclcdajaaDoorW.PrintMore Go.Proofs.YtiknkolclcdajaaDoor.Q
theorem w64 {x : Int} (h0 : -9223372036854775808 ≤ x) (h1 : x ≤ 9223372036854775807) : wrap64 x = x := by
  unfold wrap64
  omega
/-- a list of bytes as a text -/
def txt (l : List UInt8) : ByteArray := ⟨l.toArray⟩
theorem txt_app (a b : List UInt8) : txt a ++ txt b = txt (a ++ b) := by
  apply ByteArray.ext
  simp [txt]
theorem txt_num (u : Nat) (h : u < 10) (x : Int) (hx : x = 48 + (u : Int)) : strOfNums [x] = txt [UInt8.ofNat (48 + u)] := by
  subst hx
  apply ByteArray.ext
  have : (48 + (u : Int)).toNat = 48 + u := by omega
  simp [strOfNums, txt, this]
/-- the digits that are left, ahead of what is written -/
def pre (n : Int) (acc : List UInt8) : List UInt8 := if n = 0 then acc else Lib.decDigits n.natAbs ++ acc
def fin_ (b : Bool) (s : List UInt8) : List UInt8 := if b = true then 45 :: s else s
theorem pre_step (n : Int) (h : n ≠ 0) (acc : List UInt8) : pre (Int.tdiv n 10) (UInt8.ofNat (48 + n.natAbs % 10) :: acc) = pre n acc := by
  have hd : (Int.tdiv n 10).natAbs = n.natAbs / 10 := by rw [Int.natAbs_tdiv]; rfl
  unfold pre
  rw [if_neg h]
  by_cases q : n.natAbs < 10
  · rw [if_pos (by omega), Lib.decDigits, dif_pos q, Nat.mod_eq_of_lt q]
    rfl
  · rw [if_neg (by omega), hd]
    conv => rhs; rw [Lib.decDigits, dif_neg q]
    simp
theorem tmod_abs (n : Int) : (Int.tmod n 10 < 0 → -(Int.tmod n 10) = ((n.natAbs % 10 : Nat) : Int)) ∧ (¬ Int.tmod n 10 < 0 → Int.tmod n 10 = ((n.natAbs % 10 : Nat) : Int)) := by
  have h : (Int.tmod n 10).natAbs = n.natAbs % 10 := by rw [Int.natAbs_tmod]; rfl
  constructor <;> intro q <;> omega
theorem digits_l0 : ∀ (d : Nat) (n : Int) (b : Bool) (acc : List UInt8), n.natAbs < 10 ^ d → -9223372036854775808 ≤ n → n ≤ 9223372036854775807 → acc.length + d ≤ 1000 → spec_Digits.l0 (d + 1) n b (txt acc) = some (txt (fin_ b (pre n acc))) := by
  intro d
  induction d with
  | zero =>
    intro n b acc h h0 h1 hs
    have hz : n = 0 := by simp at h; exact h
    rw [spec_Digits.l0, if_pos hz]
    unfold pre fin_
    rw [if_pos hz]
    cases b with
    | true =>
      rw [if_pos rfl, if_pos rfl, if_pos (by show 1 + acc.toArray.size ≤ _; simp; omega)]
      exact congrArg some (txt_app [45] acc)
    | false => rw [if_neg (by simp), if_neg (by simp)]
  | succ d ih =>
    intro n b acc h h0 h1 hs
    by_cases hz : n = 0
    · rw [spec_Digits.l0, if_pos hz]
      unfold pre fin_
      rw [if_pos hz]
      cases b with
      | true =>
        rw [if_pos rfl, if_pos rfl, if_pos (by show 1 + acc.toArray.size ≤ _; simp; omega)]
        exact congrArg some (txt_app [45] acc)
      | false => rw [if_neg (by simp), if_neg (by simp)]
    · have hm := tmod_abs n
      have hu : n.natAbs % 10 < 10 := Nat.mod_lt _ (by omega)
      have hd : (Int.tdiv n 10).natAbs = n.natAbs / 10 := by rw [Int.natAbs_tdiv]; rfl
      have b0 : -9223372036854775808 ≤ Int.tdiv n 10 := by omega
      have b1 : Int.tdiv n 10 ≤ 9223372036854775807 := by omega
      have next : spec_Digits.l0 (d + 1) (wrap64 (Int.tdiv n 10)) b (txt [UInt8.ofNat (48 + n.natAbs % 10)] ++ txt acc) = some (txt (fin_ b (pre n acc))) := by
        rw [w64 b0 b1, txt_app, ← pre_step n hz]
        exact ih _ b _ (by rw [hd]; rw [Nat.pow_succ] at h; omega) b0 b1 (by simp; omega)
      have size : ∀ y : UInt8, (txt [y]).size + (txt acc).size ≤ 9223372036854775807 := fun y => by show 1 + acc.toArray.size ≤ _; simp; omega
      rw [spec_Digits.l0, if_neg hz]
      by_cases q : Int.tmod n 10 < 0
      · have e : strOfNums [(wrap64 (48 + (wrap64 (-(Int.tmod n 10))))) % 256] = txt [UInt8.ofNat (48 + n.natAbs % 10)] := by
          apply txt_num _ hu
          have a1 : wrap64 (-(Int.tmod n 10)) = ((n.natAbs % 10 : Nat) : Int) := by rw [hm.1 q]; exact w64 (by omega) (by omega)
          rw [a1, w64 (by omega) (by omega)]
          omega
        rw [if_pos q, Option.bind_some, e, if_pos (size _)]
        exact next
      · have e : strOfNums [(wrap64 (48 + (Int.tmod n 10))) % 256] = txt [UInt8.ofNat (48 + n.natAbs % 10)] := by
          apply txt_num _ hu
          rw [hm.2 q, w64 (by omega) (by omega)]
          omega
        rw [if_neg q, Option.bind_some, e, if_pos (size _)]
        exact next
theorem digits (n : Int) (h0 : -9223372036854775808 ≤ n) (h1 : n ≤ 9223372036854775807) : spec_Digits.f 21 n = some ⟨(Lib.itoa n).toArray⟩ := by
  unfold spec_Digits.f
  by_cases hz : n = 0
  · rw [if_pos hz, hz, show Lib.itoa 0 = [48] by rw [Lib.itoa, if_neg (by omega), Int.toNat_zero, Lib.decDigits, dif_pos (by omega)]; rfl]
  · rw [if_neg hz]
    have h := digits_l0 20 n (decide (n < 0)) [] (by omega) h0 h1 (by simp)
    refine Eq.trans h (congrArg some ?_)
    unfold fin_ pre Lib.itoa txt
    rw [if_neg hz, List.append_nil]
    by_cases q : n < 0
    · rw [if_pos (by simp [q]), if_pos q]
    · rw [if_neg (by simp [q]), if_neg q]
      rw [show n.natAbs = n.toNat by omega]
end Go.Proofs.YtiknkolclcdajaaDoor.Pure

/- FnExactCmdText as a plain statement: proved for all arguments. Condition: whole numbers of 64 bits, texts that Go can hold. -/
set_option linter.unusedVariables false
set_option linter.unusedSimpArgs false
namespace Go.Proofs.YtiknkolclcdajaaDoor.Pure
open Go.RowKit Go.Proofs.YtiknkolclcdajaaDoorW.PrintWords Go.Proofs.YtiknkolclcdajaaDoorW.PrintLast Go.Proofs.YtiknkolclcdajaaDoorW.PrintMore Go.Proofs.YtiknkolclcdajaaDoor.Q
theorem pos_ {α : Type} {c : Prop} [Decidable c] {a b : Option α} {r : α} (h : c) (k : a = some r) : (if c then a else b) = some r := by rw [if_pos h]; exact k
theorem neg_ {α : Type} {c : Prop} [Decidable c] {a b : Option α} {r : α} (h : ¬ c) (k : b = some r) : (if c then a else b) = some r := by rw [if_neg h]; exact k
theorem bind_ {α β : Type} {o : Option α} {x : α} {f : α → Option β} {r : β} (h : o = some x) (k : f x = some r) : o.bind f = some r := by rw [h, Option.bind_some]; exact k
/-- a whole number of 64 bits -/
def i64 (n : Int) : Prop := -9223372036854775808 ≤ n ∧ n ≤ 9223372036854775807
theorem txt_size (l : List UInt8) : (txt l).size = l.length := by simp [txt, ByteArray.size]
theorem sd (n : Int) (h : i64 n) : spec_Digits.f 21 n = some (txt (Lib.itoa n)) := digits n h.1 h.2
theorem id_ (n : Int) (h : i64 n) : impl_Digits.f n = some (txt (Lib.itoa n)) := by unfold impl_Digits.f; rw [if_pos ⟨h.1, h.2⟩]; rfl
theorem len (n : Int) (h : i64 n) : (txt (Lib.itoa n)).size ≤ 21 := by rw [txt_size]; exact Lib.itoa_length_le n h.1 h.2
/-- what is said of a command -/
def body (w s a b c : Int) (nm kl tl : List UInt8) : List UInt8 :=
  Lib.itoa w ++ (46 :: (Lib.itoa s ++ (32 :: (nm ++ (32 :: (Lib.itoa a ++ (32 :: (Lib.itoa b ++ (32 :: (Lib.itoa c ++ (32 :: 60 :: (kl ++ (62 :: 32 :: 60 :: (tl ++ [62]))))))))))))))
set_option maxHeartbeats 8000000 in
theorem spec_body (names : List ByteArray) (op w s o a b c : Int) (nm kl tl : List UInt8) (hw : i64 w) (hs : i64 s) (ha : i64 a) (hb : i64 b) (hc : i64 c) (h0 : 0 ≤ op) (h1 : op < (names.length : Int)) (hn : rdOf ByteArray.empty names op = txt nm) (hl : nm.length ≤ 5) (hk : kl.length + tl.length ≤ 1048576) :
    spec_CmdText.j0 22 names op w s o a b c (txt kl) (txt tl) = some (txt (body w s a b c nm kl tl)) := by
  have l1 := len w hw
  have l2 := len s hs
  have l3 := len a ha
  have l4 := len b hb
  have l5 := len c hc
  have l6 := txt_size nm
  have l7 := txt_size kl
  have l8 := txt_size tl
  have e1 : (⟨#[46]⟩ : ByteArray).size = 1 := rfl
  have e2 : (⟨#[32]⟩ : ByteArray).size = 1 := rfl
  have e3 : (⟨#[32, 60]⟩ : ByteArray).size = 2 := rfl
  have e4 : (⟨#[62, 32, 60]⟩ : ByteArray).size = 3 := rfl
  rw [spec_CmdText.j0, hn]
  repeat (first | refine bind_ (sd _ (by assumption)) ?_ | refine pos_ h0 ?_ | refine pos_ h1 ?_ | refine pos_ (by (try simp only [ByteArray.size_append, e1, e2, e3, e4]); omega) ?_)
  refine congrArg some ?_
  rw [show (⟨#[46]⟩ : ByteArray) = txt [46] from rfl, show (⟨#[32]⟩ : ByteArray) = txt [32] from rfl, show (⟨#[32, 60]⟩ : ByteArray) = txt [32, 60] from rfl, show (⟨#[62, 32, 60]⟩ : ByteArray) = txt [62, 32, 60] from rfl, show (⟨#[62]⟩ : ByteArray) = txt [62] from rfl]
  simp only [txt_app]
  simp [body]
set_option maxHeartbeats 8000000 in
theorem impl_body (w s o a b c : Int) (nm kl tl : List UInt8) (hw : i64 w) (hs : i64 s) (ha : i64 a) (hb : i64 b) (hc : i64 c) (hl : nm.length ≤ 5) (hk : kl.length + tl.length ≤ 1048576) :
    impl_CmdText.j0 22 (txt nm) w s o a b c (txt kl) (txt tl) = some (txt (body w s a b c nm kl tl)) := by
  have l1 := len w hw
  have l2 := len s hs
  have l3 := len a ha
  have l4 := len b hb
  have l5 := len c hc
  have l7 := txt_size kl
  have l8 := txt_size tl
  have e1 : (⟨#[46]⟩ : ByteArray).size = 1 := rfl
  have e2 : (⟨#[60]⟩ : ByteArray).size = 1 := rfl
  rw [impl_CmdText.j0]
  have hj : Lib.join ([(txt (Lib.itoa w) ++ (⟨#[46]⟩ : ByteArray)) ++ txt (Lib.itoa s), txt nm, txt (Lib.itoa a), txt (Lib.itoa b), txt (Lib.itoa c), ((⟨#[60]⟩ : ByteArray) ++ txt kl) ++ (⟨#[62]⟩ : ByteArray), ((⟨#[60]⟩ : ByteArray) ++ txt tl) ++ (⟨#[62]⟩ : ByteArray)].map (·.data.toList)) (⟨#[32]⟩ : ByteArray).data.toList = body w s a b c nm kl tl := by
    rw [show (⟨#[46]⟩ : ByteArray) = txt [46] from rfl, show (⟨#[60]⟩ : ByteArray) = txt [60] from rfl, show (⟨#[62]⟩ : ByteArray) = txt [62] from rfl]
    simp only [txt_app]
    simp [Lib.join_cons, Lib.joinTail, txt, body]
  have hbl : (body w s a b c nm kl tl).length ≤ 140737488355328 := by
    rw [txt_size] at l1 l2 l3 l4 l5
    simp only [body, List.length_append, List.length_cons, List.length_nil]
    omega
  repeat (first | refine bind_ (id_ _ (by assumption)) ?_ | refine pos_ (by (try simp only [ByteArray.size_append, e1, e2]); omega) ?_)
  refine bind_ (x := txt (body w s a b c nm kl tl)) ?_ rfl
  unfold strings_Join.f
  rw [hj, if_pos ⟨by simp, hbl⟩]
  rfl
end Go.Proofs.YtiknkolclcdajaaDoor.Pure

/- FnExactCmdText as a plain statement, its end: proved for all arguments. Condition: whole numbers of 64 bits, texts that Go can hold. -/
set_option linter.unusedVariables false
set_option linter.unusedSimpArgs false
namespace Go.Proofs.YtiknkolclcdajaaDoor.Pure
open Go.RowKit Go.Proofs.YtiknkolclcdajaaDoorW.PrintWords Go.Proofs.YtiknkolclcdajaaDoorW.PrintLast Go.Proofs.YtiknkolclcdajaaDoorW.PrintMore Go.Proofs.YtiknkolclcdajaaDoor.Q
theorem names_ (op : Int) (h : 1 ≤ op ∧ op ≤ 10) : ∃ nm : List UInt8, nm.length ≤ 5 ∧ ∃ y, impl_opNames.f = some y ∧ (y.length : Int) = 10 ∧ rdOf ByteArray.empty y (op - 1) = txt nm ∧ rdOf ByteArray.empty ((⟨#[110, 111, 110, 101]⟩ : ByteArray) :: y) op = txt nm := by
  have : op = 1 ∨ op = 2 ∨ op = 3 ∨ op = 4 ∨ op = 5 ∨ op = 6 ∨ op = 7 ∨ op = 8 ∨ op = 9 ∨ op = 10 := by omega
  rcases this with rfl | rfl | rfl | rfl | rfl | rfl | rfl | rfl | rfl | rfl
  · exact ⟨[112, 117, 116], by decide, _, rfl, rfl, rfl, rfl⟩
  · exact ⟨[103, 101, 116], by decide, _, rfl, rfl, rfl, rfl⟩
  · exact ⟨[101, 112, 111, 99, 104], by decide, _, rfl, rfl, rfl, rfl⟩
  · exact ⟨[106, 111, 105, 110], by decide, _, rfl, rfl, rfl, rfl⟩
  · exact ⟨[108, 101, 97, 118, 101], by decide, _, rfl, rfl, rfl, rfl⟩
  · exact ⟨[109, 97, 114, 107], by decide, _, rfl, rfl, rfl, rfl⟩
  · exact ⟨[114, 101, 97, 100], by decide, _, rfl, rfl, rfl, rfl⟩
  · exact ⟨[116, 105, 99, 107], by decide, _, rfl, rfl, rfl, rfl⟩
  · exact ⟨[116, 114, 105, 109], by decide, _, rfl, rfl, rfl, rfl⟩
  · exact ⟨[112, 97, 99, 107], by decide, _, rfl, rfl, rfl, rfl⟩
def NM : List ByteArray := [(⟨#[110, 111, 110, 101]⟩ : ByteArray), (⟨#[112, 117, 116]⟩ : ByteArray), (⟨#[103, 101, 116]⟩ : ByteArray), (⟨#[101, 112, 111, 99, 104]⟩ : ByteArray), (⟨#[106, 111, 105, 110]⟩ : ByteArray), (⟨#[108, 101, 97, 118, 101]⟩ : ByteArray), (⟨#[109, 97, 114, 107]⟩ : ByteArray), (⟨#[114, 101, 97, 100]⟩ : ByteArray), (⟨#[116, 105, 99, 107]⟩ : ByteArray), (⟨#[116, 114, 105, 109]⟩ : ByteArray), (⟨#[112, 97, 99, 107]⟩ : ByteArray)]
theorem FnExactCmdText (w s o a b c : Int) (K T : ByteArray) (hw : i64 w) (hs : i64 s) (ho : i64 o) (ha : i64 a) (hb : i64 b) (hc : i64 c) (hK : K.size ≤ maxLen) (hT : T.size ≤ maxLen) : laws_FnExactCmdText.f 22 w s o a b c K T = some true := by
  obtain ⟨kl, rfl⟩ : ∃ l, K = txt l := ⟨K.data.toList, by apply ByteArray.ext; simp [txt]⟩
  obtain ⟨tl, rfl⟩ : ∃ l, T = txt l := ⟨T.data.toList, by apply ByteArray.ext; simp [txt]⟩
  rw [txt_size] at hK hT
  unfold maxLen at hK hT
  have z : ∃ q, laws_szCmd.f w s o a b c (txt kl) (txt tl) 1048576 = some q ∧ (0 ≤ q → kl.length + tl.length ≤ 1048576) := by
    unfold laws_szCmd.f
    rw [txt_size, txt_size, w64 (x := 1048576 - (kl.length : Int)) (by omega) (by omega)]
    split
    · exact ⟨_, rfl, by omega⟩
    · rw [w64 (by omega) (by omega)]
      split
      · exact ⟨_, rfl, by omega⟩
      · exact ⟨_, rfl, by omega⟩
  obtain ⟨q, hq, hq2⟩ := z
  unfold laws_FnExactCmdText.f
  refine bind_ hq ?_
  by_cases c0 : q < 0
  · exact pos_ c0 rfl
  refine neg_ c0 ?_
  have hk := hq2 (by omega)
  have both : ∃ t, spec_CmdText.f 22 w s o a b c (txt kl) (txt tl) = some t ∧ impl_CmdText.f 22 w s o a b c (txt kl) (txt tl) = some t := by
    unfold spec_CmdText.f impl_CmdText.f
    by_cases e : w = -1
    · exact ⟨_, pos_ e rfl, pos_ e rfl⟩
    · by_cases r : 1 ≤ o ∧ o ≤ 10
      · obtain ⟨nm, hl, y, hy, hyl, r1, r2⟩ := names_ o r
        have hy2 : y = [(⟨#[112, 117, 116]⟩ : ByteArray), (⟨#[103, 101, 116]⟩ : ByteArray), (⟨#[101, 112, 111, 99, 104]⟩ : ByteArray), (⟨#[106, 111, 105, 110]⟩ : ByteArray), (⟨#[108, 101, 97, 118, 101]⟩ : ByteArray), (⟨#[109, 97, 114, 107]⟩ : ByteArray), (⟨#[114, 101, 97, 100]⟩ : ByteArray), (⟨#[116, 105, 99, 107]⟩ : ByteArray), (⟨#[116, 114, 105, 109]⟩ : ByteArray), (⟨#[112, 97, 99, 107]⟩ : ByteArray)] := by
          unfold impl_opNames.f at hy
          exact (Option.some.inj hy).symm
        refine ⟨txt (body w s a b c nm kl tl), neg_ e (bind_ rfl (bind_ (x := true) ?_ (pos_ rfl ?_))), neg_ e (bind_ (x := true) ?_ (pos_ rfl (bind_ hy (pos_ ?_ (pos_ ?_ ?_)))))⟩
        · show spec_l1In.f o 0 (wrap64 (11 - 1)) = some true
          rw [w64 (by omega) (by omega)]
          unfold spec_l1In.f
          rw [if_pos (by omega), decide_eq_true (by omega)]
        · refine spec_body _ o w s o a b c nm kl tl hw hs ha hb hc (by omega) (by show o < 11; omega) ?_ hl hk
          rw [hy2] at r2
          exact r2
        · unfold impl_within.f
          rw [if_pos (by omega), decide_eq_true (by omega)]
        · rw [w64 (by omega) (by omega)]
          omega
        · rw [w64 (by omega) (by omega)]
          omega
        · rw [w64 (by omega) (by omega), r1]
          exact impl_body w s o a b c nm kl tl hw hs ha hb hc hl hk
      · have n0 : (⟨#[110, 111, 110, 101]⟩ : ByteArray) = txt [110, 111, 110, 101] := rfl
        refine ⟨txt (body w s a b c [110, 111, 110, 101] kl tl), neg_ e (bind_ rfl ?_), neg_ e (bind_ (x := false) ?_ (neg_ (by simp) ?_))⟩
        · have all : ∀ v : Bool, (v = true → o = 0) → (if v = true then spec_CmdText.j0 22 NM o w s o a b c (txt kl) (txt tl) else spec_CmdText.j0 22 NM 0 w s o a b c (txt kl) (txt tl)) = some (txt (body w s a b c [110, 111, 110, 101] kl tl)) := by
            intro v hv
            have fin := spec_body NM 0 w s o a b c [110, 111, 110, 101] kl tl hw hs ha hb hc (by omega) (by show (0 : Int) < 11; omega) rfl (by decide) hk
            cases v with
            | true => rw [if_pos rfl]; have := hv rfl; subst this; exact fin
            | false => rw [if_neg (by simp)]; exact fin
          refine bind_ (x := decide (o = 0)) ?_ (all _ (fun h => of_decide_eq_true h))
          show spec_l1In.f o 0 (wrap64 (11 - 1)) = some _
          rw [w64 (by omega) (by omega)]
          unfold spec_l1In.f
          by_cases g : o ≥ 0
          · rw [if_pos g]
            by_cases g2 : o ≤ 10 - 0
            · rw [decide_eq_true (p := o = 0) (by omega), decide_eq_true (by omega)]
            · rw [decide_eq_false (p := o = 0) (by omega), decide_eq_false (by omega)]
          · rw [if_neg g, decide_eq_false (by omega)]
        · unfold impl_within.f
          by_cases g : o ≥ 1
          · rw [if_pos g, decide_eq_false (by omega)]
          · rw [if_neg g]
        · rw [n0]
          exact impl_body w s o a b c _ kl tl hw hs ha hb hc (by decide) hk
  obtain ⟨t, t1, t2⟩ := both
  exact bind_ rfl (bind_ t1 (bind_ rfl (bind_ t2 (pos_ rfl rfl))))
end Go.Proofs.YtiknkolclcdajaaDoor.Pure

/-
  DERIVED: THE SHELF's CONTRACTS AT THIS DUMP, IN PLAIN WORDS (tools/lay-plain.mjs out of 'YtiknkolclcdajaaDoorS0.lean', which tools/lay-shelf.mjs wrote): THE SAME DECLARATIONS UNDER THE SAME NAMES: 'import', 'namespace', 'open', 'def', 'theorem' AND NOTHING ELSE: no command of the shelf's: FOR A HAND-IN. Each laying: the table of numbers ('.._ren') and one theorem, a field a fact of the dump's own or the kernel's comparison; each contract: ONE APPLICATION.
-/
namespace Go.Proofs
open Go.Shelf
def Tryd.laysM171_ren : Go.Shelf.Ren := ⟨fun | 171 => 11 | 243 => 16 | 246 => 20 | 283 => 23 | 284 => 24 | 285 => 25 | 286 => 26 | 129 => 30 | 317 => 29 | 318 => 31 | 319 => 32 | 320 => 33 | 337 => 34 | 338 => 35 | n => n, fun | 3 => 3 | 9 => 9 | 2 => 2 | 4 => 4 | 171 => 47 | 0 => 0 | 53 => 48 | 37 => 31 | 5 => 5 | 173 => 51 | 212 => 58 | 51 => 59 | 20 => 20 | 213 => 60 | 46 => 61 | 232 => 64 | 233 => 65 | n => n, fun | 17 => 0 | 18 => 2 | 19 => 3 | n => n⟩
theorem Tryd.laysM171 : Go.Proofs.LaysM.n171 Tryd.prog Tryd.laysM171_ren := {
  mixed := by kernel_rfl
  f129 := Tryd.func30.trans (congrArg some (by kernel_rfl))
  f171 := Tryd.func11.trans (congrArg some (by kernel_rfl))
  f243 := Tryd.func16.trans (congrArg some (by kernel_rfl))
  f246 := Tryd.func20.trans (congrArg some (by kernel_rfl))
  f283 := Tryd.func23.trans (congrArg some (by kernel_rfl))
  f284 := Tryd.func24.trans (congrArg some (by kernel_rfl))
  f285 := Tryd.func25.trans (congrArg some (by kernel_rfl))
  f286 := Tryd.func26.trans (congrArg some (by kernel_rfl))
  f317 := Tryd.func29.trans (congrArg some (by kernel_rfl))
  f318 := Tryd.func31.trans (congrArg some (by kernel_rfl))
  f319 := Tryd.func32.trans (congrArg some (by kernel_rfl))
  f320 := Tryd.func33.trans (congrArg some (by kernel_rfl))
  f337 := Tryd.func34.trans (congrArg some (by kernel_rfl))
  f338 := Tryd.func35.trans (congrArg some (by kernel_rfl))
  t0 := Tryd.underlying0
  a0 := Tryd.isAgg0
  z0 := Tryd.sizeOf0
  v0 := Tryd.zeroValue0
  t2 := Tryd.underlying2
  a2 := Tryd.isAgg2
  z2 := Tryd.sizeOf2
  v2 := Tryd.zeroValue2
  t3 := Tryd.underlying3
  a3 := Tryd.isAgg3
  z3 := Tryd.sizeOf3
  v3 := Tryd.zeroValue3
  t4 := Tryd.underlying4
  a4 := Tryd.isAgg4
  z4 := Tryd.sizeOf4
  v4 := Tryd.zeroValue4
  t5 := Tryd.underlying5
  a5 := Tryd.isAgg5
  z5 := Tryd.sizeOf5
  v5 := Tryd.zeroValue5
  t9 := Tryd.underlying9
  a9 := Tryd.isAgg9
  z9 := Tryd.sizeOf9
  v9 := Tryd.zeroValue9
  t20 := Tryd.underlying20
  a20 := Tryd.isAgg20
  z20 := Tryd.sizeOf20
  v20 := Tryd.zeroValue20
  t37 := Tryd.underlying31
  a37 := Tryd.isAgg31
  z37 := Tryd.sizeOf31
  v37 := Tryd.zeroValue31
  t46 := Tryd.underlying61
  a46 := Tryd.isAgg61
  z46 := Tryd.sizeOf61
  v46 := Tryd.zeroValue61
  t51 := Tryd.underlying59
  a51 := Tryd.isAgg59
  z51 := Tryd.sizeOf59
  v51 := Tryd.zeroValue59
  t53 := Tryd.underlying48
  a53 := Tryd.isAgg48
  z53 := Tryd.sizeOf48
  v53 := Tryd.zeroValue48
  t171 := Tryd.underlying47
  a171 := Tryd.isAgg47
  z171 := Tryd.sizeOf47
  v171 := Tryd.zeroValue47
  t173 := Tryd.underlying51
  a173 := Tryd.isAgg51
  z173 := Tryd.sizeOf51
  v173 := Tryd.zeroValue51
  t212 := Tryd.underlying58
  a212 := Tryd.isAgg58
  z212 := Tryd.sizeOf58
  v212 := Tryd.zeroValue58
  t213 := Tryd.underlying60
  a213 := Tryd.isAgg60
  z213 := Tryd.sizeOf60
  t232 := Tryd.underlying64
  a232 := Tryd.isAgg64
  z232 := Tryd.sizeOf64
  v232 := Tryd.zeroValue64
  t233 := Tryd.underlying65
  a233 := Tryd.isAgg65
  z233 := Tryd.sizeOf65
  v233 := Tryd.zeroValue65
  g17 := by kernel_rfl
  g18 := by kernel_rfl
  g19 := by kernel_rfl
  i0 := by kernel_rfl
  i2 := by kernel_rfl
  i3 := by kernel_rfl
  i4 := by kernel_rfl
  i5 := by kernel_rfl
  i9 := by kernel_rfl
  i20 := by kernel_rfl
  i37 := by kernel_rfl
  i46 := by kernel_rfl
  i51 := by kernel_rfl
  i53 := by kernel_rfl
  i171 := by kernel_rfl
  i173 := by kernel_rfl
  i212 := by kernel_rfl
  i232 := by kernel_rfl
  i233 := by kernel_rfl
  m17 := by kernel_rfl
  m18 := by kernel_rfl
  m19 := by kernel_rfl }
open Go.RowKit Go.Sort Go.Lib in
/-- strconv.Itoa: "Itoa is equivalent to FormatInt(int64(i), 10).": i's DECIMAL NUMERAL ('Lib.itoa': a '-' where i is negative, then the digits), FOR EVERY int. The world behind the call: the world before it, new blocks behind the heap (the library's 'var a [24]byte'), draws. (LAID: no walk: one application.) -/
theorem Tryd.strconv_Itoa (n : Int) (h0 : -9223372036854775808 ≤ n) (h1 : n ≤ 9223372036854775807) (w : World) (htab : Lib.TabIs Tryd.prog w "internal/strconv.uint64pow10" .u64 Lib.pow10Tab) :
    Calls Tryd.prog 11 #[.int .i64 n] w fun e w' => e = .returned (.string ⟨(Lib.itoa n).toArray⟩) ∧ ∃ k os, w' = grow (w.drewN k) os := Any.strconv_Itoa Tryd.laysM171 n h0 h1 w htab
end Go.Proofs

/- The law FnExactDigits is walked: where the reference's digits are the decimal numeral, it answers true. Conditions: a whole number of 64 bits; the table of powers of ten that the library reads. -/
namespace Go.Proofs.YtiknkolclcdajaaDoor.Q
open Go.RowKit Go.Shelf
theorem below_grown_ (B : Nat) (w : World) (q : Nat) (os : Array Obj) (hB : B ≤ w.heap.size) : Below B w (Sort.grow (w.drewN q) os) :=
  ⟨rfl, rfl, rfl, by simp [Sort.grow], fun i hi => by
    show ((w.drewN q).heap ++ os)[i]? = _
    rw [Array.getElem?_append_left (by show i < w.heap.size; omega)]
    rfl⟩
theorem impl_Digits.calls (n : Int) (h0 : -9223372036854775808 ≤ n) (h1 : n ≤ 9223372036854775807) (w : World) (htab : Lib.TabIs Tryd.prog w "internal/strconv.uint64pow10" .u64 Lib.pow10Tab) :
    Calls Tryd.prog 6 #[.int .i64 n] w fun e w' => e = .returned (.string ⟨(Lib.itoa n).toArray⟩) ∧ Below w.heap.size w w' := by
  go_enter Tryd.func6, Tryd.ntmps6
  go_wp2_with (go_at_call 11; refine (Tryd.strconv_Itoa n h0 h1 _ htab).mono ?_; rintro e w' ⟨rfl, k, os, rfl⟩)
  go_ret
  exact ⟨rfl, below_grown_ _ _ _ _ (Nat.le_refl _)⟩
theorem laws_FnExactDigits.calls (k : Nat) (n : Int) (h0 : -9223372036854775808 ≤ n) (h1 : n ≤ 9223372036854775807) (h : spec_Digits.f k n = some ⟨(Lib.itoa n).toArray⟩) (w : World) (htab : Lib.TabIs Tryd.prog w "internal/strconv.uint64pow10" .u64 Lib.pow10Tab) :
    Calls Tryd.prog 3 #[.int .i64 n] w fun e w' => e = .returned (.bool true) ∧ Below w.heap.size w w' := by
  have hT := Lib.tabBelow_of_tabIs htab
  go_enter Tryd.func3, Tryd.ntmps3
  go_wp2_with (first
    | (go_at_call 5; refine (spec_Digits.calls k n _ _ h).mono ?_; rintro e w1 ⟨rfl, hb1⟩)
    | (go_at_call 6; refine (impl_Digits.calls n h0 h1 _ (hT _ hb1)).mono ?_; rintro e w2 ⟨rfl, hb2⟩))
  go_ret
  exact ⟨rfl, hb1.trans (hb2.mono hb1.size)⟩
end Go.Proofs.YtiknkolclcdajaaDoor.Q

/-
  DERIVED: THE SHELF's CONTRACTS AT THIS DUMP, IN PLAIN WORDS (tools/lay-plain.mjs out of 'YtiknkolclcdajaaDoorS0.lean', which tools/lay-shelf.mjs wrote): THE SAME DECLARATIONS UNDER THE SAME NAMES: 'import', 'namespace', 'open', 'def', 'theorem' AND NOTHING ELSE: no command of the shelf's: FOR A HAND-IN. Each laying: the table of numbers ('.._ren') and one theorem, a field a fact of the dump's own or the kernel's comparison; each contract: ONE APPLICATION.
-/
namespace Go.Proofs
open Go.Shelf
def Tryd.lays156_ren : Go.Shelf.Ren := ⟨fun | 156 => 15 | 165 => 17 | 166 => 18 | 169 => 19 | 240 => 21 | 241 => 22 | 276 => 27 | 277 => 28 | n => n, fun | 31 => 32 | 9 => 9 | 3 => 3 | 4 => 4 | 0 => 0 | 20 => 20 | 72 => 38 | 76 => 42 | 70 => 36 | 37 => 31 | 75 => 41 | 127 => 46 | 164 => 53 | 5 => 5 | 80 => 44 | n => n, fun | n => n⟩
theorem Tryd.lays156 : Go.Proofs.Lays.n156 Tryd.prog Tryd.lays156_ren := {
  mixed := by kernel_rfl
  f156 := Tryd.func15.trans (congrArg some (by kernel_rfl))
  f165 := Tryd.func17.trans (congrArg some (by kernel_rfl))
  f166 := Tryd.func18.trans (congrArg some (by kernel_rfl))
  f169 := Tryd.func19.trans (congrArg some (by kernel_rfl))
  f240 := Tryd.func21.trans (congrArg some (by kernel_rfl))
  f241 := Tryd.func22.trans (congrArg some (by kernel_rfl))
  f276 := Tryd.func27.trans (congrArg some (by kernel_rfl))
  f277 := Tryd.func28.trans (congrArg some (by kernel_rfl))
  t0 := Tryd.underlying0
  a0 := Tryd.isAgg0
  z0 := Tryd.sizeOf0
  v0 := Tryd.zeroValue0
  t3 := Tryd.underlying3
  a3 := Tryd.isAgg3
  z3 := Tryd.sizeOf3
  v3 := Tryd.zeroValue3
  t4 := Tryd.underlying4
  a4 := Tryd.isAgg4
  z4 := Tryd.sizeOf4
  v4 := Tryd.zeroValue4
  t9 := Tryd.underlying9
  a9 := Tryd.isAgg9
  z9 := Tryd.sizeOf9
  v9 := Tryd.zeroValue9
  t20 := Tryd.underlying20
  a20 := Tryd.isAgg20
  z20 := Tryd.sizeOf20
  v20 := Tryd.zeroValue20
  t31 := Tryd.underlying32
  a31 := Tryd.isAgg32
  z31 := Tryd.sizeOf32
  v31 := Tryd.zeroValue32
  t37 := Tryd.underlying31
  a37 := Tryd.isAgg31
  z37 := Tryd.sizeOf31
  v37 := Tryd.zeroValue31
  t70 := Tryd.underlying36
  a70 := Tryd.isAgg36
  z70 := Tryd.sizeOf36
  v70 := Tryd.zeroValue36
  t72 := Tryd.underlying38
  a72 := Tryd.isAgg38
  z72 := Tryd.sizeOf38
  v72 := Tryd.zeroValue38
  t75 := Tryd.underlying41
  a75 := Tryd.isAgg41
  z75 := Tryd.sizeOf41
  v75 := Tryd.zeroValue41
  t76 := Tryd.underlying42
  a76 := Tryd.isAgg42
  z76 := Tryd.sizeOf42
  v76 := Tryd.zeroValue42
  t127 := Tryd.underlying46
  a127 := Tryd.isAgg46
  z127 := Tryd.sizeOf46
  v127 := Tryd.zeroValue46
  t164 := Tryd.underlying53
  a164 := Tryd.isAgg53
  z164 := Tryd.sizeOf53
  v164 := Tryd.zeroValue53 }
theorem Tryd.Builder_Extra_156 : Builder.Extra Tryd.prog Tryd.lays156_ren := {
  sizeBuilder := by kernel_rfl
  liesBuilder := by kernel_rfl
  t5 := Tryd.underlying5
  a5 := Tryd.isAgg5
  z5 := Tryd.sizeOf5
  v5 := Tryd.zeroValue5
  infoByte := by kernel_rfl
  cellsByte := by kernel_rfl
  sizeByte := by kernel_rfl
  neB5 := by decide }
open Go.RowKit in
/-- No element: the empty string; the world is as it was. (Whatever the slice's address and capacity: a nil slice too.) (LAID: no walk: one application.) -/
theorem Tryd.strings_Join_none (a : Option Addr) (c : Nat) (sep : ByteArray) (w : World) :
    Calls Tryd.prog 15 #[.slice a 0 c, .string sep] w fun e w' => e = .returned (.string ⟨#[]⟩) ∧ w' = w := Any.strings_Join_none Tryd.lays156 Tryd.Builder_Extra_156 a c sep w
open Go.RowKit in
/-- strings.Join: "Join concatenates the elements of its first argument to create a single string. The separator string sep is placed between elements in the resulting string.": HOWEVER MANY ELEMENTS. Below the heap's end the world is as it was. (LAID: no walk: one application.) -/
theorem Tryd.strings_Join (bk o c : Nat) (xs : List ByteArray) (sep : ByteArray) (w : World) (hcells : ∀ (j : Nat) x, xs[j]? = some x → w.cell? ⟨bk, o + j, none⟩ = some (.string x)) (hbk : bk < w.heap.size) (hN : xs.length ≤ 140737488355328) (hcap : xs.length ≤ c) (hlen : (Lib.join (xs.map (·.data.toList)) sep.data.toList).length ≤ 140737488355328) :
    Calls Tryd.prog 15 #[.slice (some ⟨bk, o, none⟩) xs.length c, .string sep] w fun e w' => e = .returned (.string ⟨(Lib.join (xs.map (·.data.toList)) sep.data.toList).toArray⟩) ∧ Below w.heap.size w w' := Any.strings_Join Tryd.lays156 Tryd.Builder_Extra_156 bk o c xs sep w hcells hbk hN hcap hlen
end Go.Proofs

/- The contracts of impl.Digits and of strings.Join, as the walks of FnExactCmdText ask for them. Condition: the table of powers of ten that the library reads. -/
namespace Go.Proofs.YtiknkolclcdajaaDoor.Q
open Go.RowKit Go.Shelf Go.Proofs.YtiknkolclcdajaaDoorW.PrintWords Go.Proofs.YtiknkolclcdajaaDoorW.PrintLast Go.Proofs.YtiknkolclcdajaaDoorW.PrintMore
theorem hDig (w : World) (htab : Lib.TabIs Tryd.prog w "internal/strconv.uint64pow10" .u64 Lib.pow10Tab) (n : Int) (t : ByteArray) (W : World) (h : impl_Digits.f n = some t) (hb : Below w.heap.size w W) :
    Calls Tryd.prog 6 #[.int .i64 n] W fun e w' => e = .returned (.string t) ∧ Below W.heap.size W w' := by
  unfold impl_Digits.f at h
  split at h
  · next q =>
    obtain rfl := Option.some.inj h
    exact impl_Digits.calls n q.1 q.2 W ((Lib.tabBelow_of_tabIs htab) _ hb)
  · cases h
theorem hJoin (A0 : Option Addr) (c0 : Nat) (l0 : List ByteArray) (a1 r : ByteArray) (W : World) (hC : Kd.C Kd.string W A0 l0.length l0) (hc : l0.length ≤ c0) (h : strings_Join.f l0 a1 = some r) :
    Calls Tryd.prog 15 #[.slice A0 l0.length c0, .string a1] W fun e w' => e = .returned (.string r) ∧ Below W.heap.size W w' := by
  unfold strings_Join.f at h
  split at h
  · next q =>
    obtain rfl := Option.some.inj h
    cases l0 with
    | nil => exact (Tryd.strings_Join_none A0 c0 a1 W).mono fun e w' he => ⟨he.1, by rw [he.2]; exact Below.refl _ _⟩
    | cons x l =>
      obtain ⟨ad, hA, h0⟩ := Kd.at_string hC 0 (by omega) (by simp)
      obtain ⟨bk, o, spot⟩ := ad
      have hs : spot = none := by simpa [Addr.add] using World.cell?_spot h0
      subst hs
      subst hA
      refine Tryd.strings_Join bk o c0 (x :: l) a1 W (fun j y hy => ?_) (World.block_lt_of_cell? W _ h0) q.1 hc q.2
      have hj : j < (x :: l).length := (List.getElem?_eq_some_iff.1 hy).1
      obtain ⟨ad, hA, h1⟩ := Kd.at_string hC (j : Int) (by omega) (by omega)
      obtain rfl := Option.some.inj hA
      have e : rdOf ByteArray.empty (x :: l) (j : Int) = y := by
        unfold rdOf
        rw [Int.toNat_natCast, List.getD_eq_getElem?_getD, hy]
        rfl
      have e2 : (⟨bk, o, none⟩ : Addr).add j = ⟨bk, o + j, none⟩ := by by_cases z : j = 0 <;> simp [Addr.add, z]
      rw [e, Int.toNat_natCast, e2] at h1
      exact h1
  · cases h
end Go.Proofs.YtiknkolclcdajaaDoor.Q

/- The law FnExactCmdText: its tied card holds, for all arguments. The row's condition: three tables of the library's lie as the program's text lays them. -/
namespace Go.Proofs.YtiknkolclcdajaaDoor.cmdText
open Go.ChangeShapes Go.WideShapes Go.ChangeAt Go.WideElems Go.RowKit Go.Proofs.YtiknkolclcdajaaDoorW.PrintWords Go.Proofs.YtiknkolclcdajaaDoor.Q Go.Proofs.YtiknkolclcdajaaDoor.R
set_option linter.unusedVariables false
theorem own : ownKnob Tryd.prog.godebug = none := by kernel_rfl
theorem laidOut : laidOutB Tryd.prog = true := by kernel_rfl
theorem gTab : Tryd.prog.globalNamed "internal/strconv.uint64pow10" = some 0 := by kernel_rfl
theorem tTab : (Tryd.prog.globals[0]?).map (·.type) = some 58 := by kernel_rfl
theorem c48 : Tryd.prog.cellsOf 48 = 1 := by kernel_rfl
theorem c58 : Tryd.prog.cellsOf 58 = 20 := by kernel_rfl
theorem door_met (os : Os) (args : Array Value) : laidMet Tryd.prog Rows.fnExactCmdTextRow.laid ((World.doorLaid Tryd.prog 4000 os).forCall (fun _ _ => 0) ⟨#[], args, []⟩).memory :=
  laidMet_of_run' 8 (by kernel_rfl) (by kernel_rfl)
theorem of_laid {W : World} (h : laidMet Tryd.prog Rows.fnExactCmdTextRow.laid W) : Lib.TabIs Tryd.prog W "internal/strconv.uint64pow10" .u64 Lib.pow10Tab := by
  obtain ⟨ps, ⟨g0, t0, cs0, f0, p0, q0, hg0, ht0, hv0, hd0, ⟨g1, t1, cs1, f1, p1, q1, hg1, ht1, hv1, hd1, ⟨g2, t2, cs2, f2, p2, q2, hg2, ht2, hv2, hd2, _, _⟩, _⟩, _⟩, _, _⟩ := h
  obtain rfl := Option.some.inj (gTab.symm.trans hg2)
  obtain rfl := Option.some.inj (tTab.symm.trans ht2)
  unfold Lib.TabIs
  rw [hv2, ← Lib.cells_of_tab Tryd.underlying58 Tryd.underlying48 c48 c58 hd2]
theorem wf64 {n : Int} (hw : (Lit.int .i64 n).wf = true) : Pure.i64 n := by
  simp only [Lit.wf, Bool.and_eq_true, decide_eq_true_eq] at hw
  exact ⟨hw.1, hw.2⟩
set_option maxRecDepth 100000 in
theorem lifted (os : Os) (started : os.Started) (H : Type) (enc : TypeId × Value → H) :
    ReturnsInHanded {} Tryd.checked os 4 .any (fun w args => (Rows.fnExactCmdTextSpec.pre enc Tryd.prog Tryd.f4 [] false w args ∧ laidMetH Tryd.prog Rows.fnExactCmdTextRow.laid w) ∧ sizedMet enc Tryd.prog Tryd.f4 (OpenSpec.ofChange Rows.fnExactCmdTextSpec) false w args)
      (Rows.fnExactCmdTextSpec.post enc Tryd.prog Tryd.f4 false true false false) := by
  refine returnsInHanded_of_change_and (C := Tryd.checked) (X := fun w _ => laidMetH Tryd.prog Rows.fnExactCmdTextRow.laid w) (fun _ _ _ hh h => h.of_heap hh) own started (by kernel_rfl) Tryd.func4
    (ChangeSpec.witness_shaped (enc := enc) (C := Tryd.checked) (os := os) (X := fun w _ => laidMetH Tryd.prog Rows.fnExactCmdTextRow.laid w) false (World.doorLaid Tryd.prog 4000 os) #[.agg #[.int .i64 0, .int .i64 0, .int .i64 0, .int .i64 0, .int .i64 0, .int .i64 0, .string ByteArray.empty, .string ByteArray.empty]] 8 rfl (World.shaped_of_RefB (by kernel_rfl) (by kernel_rfl)) (by kernel_rfl) (by kernel_rfl) (by kernel_rfl) (by show laidMetH _ _ _; rw [MakeChecks.laidMetH_plain _ _ _ (by kernel_rfl)]; exact door_met os _)) ?_
  intro W base args ds gs before hval0 hW _ _ hL _
  have hval : ∀ (j : Nat) t v, Tryd.f4.params[j]? = some t → args[j]? = some v → Value.okWide Tryd.prog W .any base t v := hval0
  have hW' := hW
  obtain ⟨p, q, hA0, hV, rfl, hfz, hnd⟩ := hW
  have hA : DataW.TrodAll enc Tryd.prog W 0 (fun _ => true) true Tryd.f4.params.toList args.toList ds p := hA0
  rw [Tryd.params4] at hA hval
  obtain ⟨v0, vs0, d0, ds0, p0, q0, hargs, rfl, rfl, h0, r0⟩ := trodAll_cons hA
  obtain ⟨rfl, rfl, rfl⟩ := trodAll_nil r0
  obtain rfl : args = #[v0] := by cases args; simp_all
  obtain ⟨rfl, rfl⟩ := trodVars_none hV
  have k0 := h0
  have lt0 : ∀ x ∈ p0, x.block < W.heap.size := by obtain ⟨m, hm⟩ := k0; exact DataW.trod_lt m _ _ _ hm
  obtain ⟨cs0, rfl, hsz0⟩ := okWide_struct Tryd.underlying25 (hval 0 25 v0 rfl rfl)
  obtain ⟨fuel0, hf0⟩ := h0
  obtain ⟨a0_0, a0_1, a0_2, a0_3, a0_4, a0_5, a0_6, a0_7, hz0, w0_0, w0_1, w0_2, w0_3, w0_4, w0_5, w0_6, w0_7⟩ := open_LCmd (cs := cs0.toList) hf0
  obtain rfl : cs0 = #[.int .i64 a0_0, .int .i64 a0_1, .int .i64 a0_2, .int .i64 a0_3, .int .i64 a0_4, .int .i64 a0_5, .string a0_6, .string a0_7] := by apply Array.toList_inj.mp; exact hz0
  rw [MakeChecks.laidMetH_plain _ _ _ (by kernel_rfl)] at hL
  have hT := of_laid hL
  clear hA0 hval0 hsz0
  have hk := Pure.FnExactCmdText a0_0 a0_1 a0_2 a0_3 a0_4 a0_5 a0_6 a0_7 (wf64 w0_0) (wf64 w0_1) (wf64 w0_2) (wf64 w0_3) (wf64 w0_4) (wf64 w0_5) w0_6 w0_7
  refine (laws_FnExactCmdText.calls (w := W) (hD := ⟨fun n t W1 h hb => hDig W hT n t W1 h hb⟩) (hJ := ⟨fun A0 c0 l0 a1 r W1 hC hc h => hJoin A0 c0 l0 a1 r W1 hC hc h⟩) (h := hk)).mono fun e W' he => ?_
  obtain ⟨rfl, bel⟩ := he
  exact ⟨_, rfl, _, _, _, [], _, [], hW', trodAll_mk1 (shut_bool Tryd.underlying4 _), (trodAll_cons_mk (Below.trod laidOut (by kernel_rfl) (of_decide_eq_true (by kernel_rfl)) k0 bel lt0) trodAll_mk0), rfl, bel.frame _, fun h => by cases h⟩
theorem row : Rows.FnExactCmdTextSaid :=
  OpenClaim.holds_of_wide 4 Tryd.f4 rfl rfl rfl rfl rfl rfl rfl ⟨rfl, rfl, rfl, rfl, rfl⟩ rfl rfl rfl rfl rfl (by kernel_rfl) Tryd.func4 (by kernel_rfl)
    (of_decide_eq_true (by kernel_rfl)) (by unfold Func.isWrapper; first | (rw [if_pos (by decide +kernel)]; kernel_rfl) | (rw [if_neg (by decide +kernel)]; exact ⟨rfl, rfl⟩))
    (fun os started H enc _ => lifted os started H enc)
end Go.Proofs.YtiknkolclcdajaaDoor.cmdText
namespace Go.Proofs.YtiknkolclcdajaaDoor
theorem fnExactCmdText_holds : Rows.FnExactCmdTextCardSaid :=
  Claim7.holds_tied_plain_at .later [] [.data, .data, .data] true (true, "2a3e397b836a7a632d62b9b8f5b7798c966128117286624d9b0e34d5c44a7414") false
    cmdText.row (fun _ h => by cases h) (by kernel_rfl) (fun _ h => by cases h) fnExactCmdText_row_tie rfl ⟨rfl, rfl⟩ (by kernel_rfl) rfl
    (fun f fn hf hfn => by
      obtain rfl : f = 4 := Option.some.inj ((show Tryd.prog.funcNamed "loop.example/g00393/laws.FnExactCmdText" = some 4 by kernel_rfl).symm.trans hf) |>.symm
      obtain rfl : fn = Tryd.f4 := (Option.some.inj (Tryd.func4.symm.trans hfn)).symm
      exact ⟨by kernel_rfl, fun j t ht => by
        rw [Tryd.params4] at ht
        have hm : t ∈ [25] := by simpa using Array.mem_of_getElem? ht
        have hall : ([25].all fun u => !Tryd.prog.wantsStandIn u) = true := by kernel_rfl
        exact (show Tryd.prog.wantsStandIn t = false by simpa using List.all_eq_true.1 hall t hm)⟩)
    (by kernel_rfl)
#print axioms fnExactCmdText_holds
end Go.Proofs.YtiknkolclcdajaaDoor

