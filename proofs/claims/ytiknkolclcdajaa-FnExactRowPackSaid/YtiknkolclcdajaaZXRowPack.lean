/- The law FnExactRowPack holds, for all arguments: its row, and behind it the plain side of what the program and the reference compute. Conditions: those that each theorem states; the row has none. -/
import Derived.Test.YtiknkolclcdajaaRows
import Derived.Deep.Slices
import Derived.ChangeArms
import Derived.WideShapes
import Derived.WalkKit
import Derived.ProofKit
import Derived.OpenShut
import Derived.ShutString
import Derived.ChangeOld
import Derived.Below
import Derived.SizedLaws
import Derived.Test.YtiknkolclcdajaaZXRowPack0
import Derived.Test.YtiknkolclcdajaaZXRowPacka
import Derived.Test.YtiknkolclcdajaaZXRowPackb
import Derived.Test.YtiknkolclcdajaaZXRowPackc
import Derived.Test.YtiknkolclcdajaaZXRowPackd
import Derived.Test.YtiknkolclcdajaaZXRowPacke
import Derived.Test.YtiknkolclcdajaaZXRowPackf
/- What is read as data is of a printed kind: whole numbers, texts, structs of one-cell fields, slices. For the laws' rows. No condition. -/
namespace Go.Proofs.Ytiknkolclcdajaa.R
open Go.RowKit Go.Proofs.YtiknkolclcdajaaW.PrintWords Go.WideShapes

/-- Whatever is read as data of type t has cells that are of kind d. -/
def Rd {α : Type} (P : Program) (t : TypeId) (d : Kd α) (wf : α → Prop) : Prop :=
  ∀ (H : Type) (enc : TypeId × Value → H) (W : World) (base : Nat) (spare : Nat → Bool) (held : Bool) (fuel : Nat) (cs : List Value) (x : DataW H × List MemPlace),
    DataW.trod enc P W base spare held fuel t cs = some x → ∃ a, d.K W a cs ∧ wf a
theorem rd_int {P : Program} {t : TypeId} {k : IntKind} (ht : P.underlying t = some (.int k)) : Rd P t (Kd.int k) (fun n => (Lit.int k n).wf = true) := by
  intro H enc W base spare held fuel cs x h
  obtain ⟨n, rfl, _, hw⟩ := DataW.trod_int ht h
  exact ⟨n, rfl, hw⟩
theorem rd_string {P : Program} {t : TypeId} (ht : P.underlying t = some .string) : Rd P t Kd.string (fun s => s.size ≤ maxLen) := by
  intro H enc W base spare held fuel cs x h
  obtain ⟨s, rfl, _, hw⟩ := DataW.trod_string ht h
  exact ⟨s, rfl, hw⟩
theorem rd_slice {α : Type} {P : Program} {t e : TypeId} {d : Kd α} {wf : α → Prop} (ht : P.underlying t = some (.slice e)) (hs : P.cellsOf e = d.sz) (hr : Rd P e d wf) :
    Rd P t (Kd.slice e d) (fun xs => xs.length ≤ maxLen ∧ ∀ x ∈ xs, wf x) := by
  intro H enc W base spare held fuel cs x h
  rcases Go.Deep.open_slice ht h with ⟨rfl, _⟩ | ⟨a, len, cap, m, n, D, Pl, rfl, hb, hl, hm, hmm, _, hx⟩
  · exact ⟨[], ⟨none, 0, rfl, Nat.le_refl _, rfl, by simp, fun h0 => absurd h0 (by simp)⟩, by simp, by simp⟩
  · have hml : len ≤ m := by rw [hmm]; split <;> omega
    have key : ∀ i, i < len → ∃ p : α, wf p ∧ ∃ c, c.length = d.sz ∧ d.K W p c ∧ ∀ q u, c[q]? = some u → W.cell? (a.add (i * d.sz + q)) = some u := by
      intro i hi
      obtain ⟨cs', h1, h2⟩ := hx i (by omega)
      obtain ⟨p, hp, hw⟩ := hr H enc W base spare held n cs' _ h2
      obtain ⟨_, hlen, hc⟩ := World.cells?_some h1
      rw [hs] at hlen hc
      refine ⟨p, hw, cs', hlen, hp, fun q u hq => ?_⟩
      have hq' : q < d.sz := by
        have := (List.getElem?_eq_some_iff.1 hq).1
        omega
      rw [← hq, ← hc q hq', Go.Deep.add_add]
    have key2 : ∃ f : Nat → Option α, ∀ i, i < len → ∃ p, f i = some p ∧ wf p ∧ ∃ c, c.length = d.sz ∧ d.K W p c ∧ ∀ q u, c[q]? = some u → W.cell? (a.add (i * d.sz + q)) = some u := by
      classical
      refine ⟨fun i => if hi : i < len then some (Classical.choose (key i hi)) else none, fun i hi => ⟨Classical.choose (key i hi), by simp [hi], Classical.choose_spec (key i hi)⟩⟩
    obtain ⟨f, hf⟩ := key2
    have hlen : ∀ k, k ≤ len → ((List.range k).filterMap f).length = k ∧ ∀ j, j < k → ((List.range k).filterMap f)[j]? = f j := by
      intro k
      induction k with
      | zero => intro _; exact ⟨rfl, fun j hj => absurd hj (by omega)⟩
      | succ k ih =>
        intro hk
        obtain ⟨i1, i2⟩ := ih (by omega)
        obtain ⟨p, hp, _⟩ := hf k (by omega)
        have e : (List.range (k + 1)).filterMap f = (List.range k).filterMap f ++ [p] := by rw [List.range_succ, List.filterMap_append]; simp [hp]
        refine ⟨by rw [e]; simp [i1], fun j hj => ?_⟩
        rw [e]
        rcases Nat.lt_or_ge j k with h1 | h1
        · rw [List.getElem?_append_left (by omega)]; exact i2 j h1
        · obtain rfl : j = k := by omega
          rw [List.getElem?_append_right (by omega), i1]; simp [hp]
    obtain ⟨i1, i2⟩ := hlen len (Nat.le_refl _)
    refine ⟨(List.range len).filterMap f, ⟨some a, cap, by rw [i1], by rw [i1]; exact hl, rfl, by rw [i1]; simp only [maxLen] at hm; omega, fun _ => ⟨a, rfl, fun j p hj => ?_⟩⟩, by rw [i1]; omega, fun p hp => ?_⟩
    · have hj' : j < len := by
        have := (List.getElem?_eq_some_iff.1 hj).1
        omega
      obtain ⟨p', hp', _, hc⟩ := hf j hj'
      rw [i2 j hj', hp'] at hj
      cases hj
      exact hc
    · obtain ⟨i, hi, hfi⟩ := List.mem_filterMap.1 hp
      obtain ⟨p', hp', hw, _⟩ := hf i (by simpa using hi)
      rw [hp'] at hfi
      cases hfi
      exact hw
/-- The fields of a struct, each of one cell, cell by cell. -/
theorem rd_fields {H : Type} {enc : TypeId × Value → H} {P : Program} {W : World} {base : Nat} {spare : Nat → Bool} {held : Bool} {fuel : Nat} {t : TypeId} {fs : Array Field} {cs : List Value} {x : DataW H × List MemPlace}
    (ht : P.underlying t = some (.struct fs)) (h : DataW.trod enc P W base spare held fuel t cs = some x) : cs.length = P.cellsOf t ∧ ∃ n, ∀ (i : Nat) (f : Field), fs[i]? = some f → ∃ y, DataW.trod enc P W base spare held n f.type ((cs.drop f.offset).take (P.cellsOf f.type)) = some y := by
  obtain ⟨xs, n, _, _, hl, hlen, hf⟩ := DataW.trod_struct ht h
  refine ⟨hl, n, fun i f hi => ?_⟩
  have hi' : i < xs.length := by
    rw [hlen]
    exact (Array.getElem?_eq_some_iff.1 hi).1
  exact ⟨xs[i], by rw [hf i f hi, List.getElem?_eq_getElem hi']⟩
end Go.Proofs.Ytiknkolclcdajaa.R

/- How the laws' arguments of this seat are opened: what is read as data has the cells that the walks want. No condition. -/
namespace Go.Proofs.Ytiknkolclcdajaa.R
open Go.RowKit Go.Proofs.YtiknkolclcdajaaW.PrintWords Go.WideShapes Go.Proofs.Ytiknkolclcdajaa.Q
set_option linter.unusedVariables false
theorem cells_3 {cs : List Value} (h : cs.length = 3) : ∃ z0 z1 z2, cs = [z0, z1, z2] := by
  match cs, h with
  | [y0, y1, y2], _ => exact ⟨y0, y1, y2, rfl⟩
theorem cells_5 {cs : List Value} (h : cs.length = 5) : ∃ z0 z1 z2 z3 z4, cs = [z0, z1, z2, z3, z4] := by
  match cs, h with
  | [y0, y1, y2, y3, y4], _ => exact ⟨y0, y1, y2, y3, y4, rfl⟩
def WF_LItem (x : S_LItem) : Prop := ((Lit.int .i64 x.f0).wf = true) ∧ (x.f1.size ≤ maxLen) ∧ (x.f2.size ≤ maxLen) ∧ ((Lit.int .i64 x.f3).wf = true) ∧ ((Lit.int .i64 x.f4).wf = true)
theorem rd_LItem : Rd Try.prog 184 k_LItem WF_LItem := by
  intro H enc W base spare held fuel cs x h
  obtain ⟨hl, n, hf⟩ := rd_fields Try.underlying184 h
  have hl' : cs.length = 5 := hl.trans (by kernel_rfl)
  obtain ⟨z0, z1, z2, z3, z4, rfl⟩ := cells_5 hl'
  have cc3 : Try.prog.cellsOf 3 = 1 := by kernel_rfl
  have cc9 : Try.prog.cellsOf 9 = 1 := by kernel_rfl
  obtain ⟨e0, he0⟩ := hf 0 _ rfl
  have hc0 : DataW.trod enc Try.prog W base spare held n 3 [z0] = some e0 := by simpa [cc3] using he0
  obtain ⟨b0, hk0, w0⟩ := (rd_int Try.underlying3) H enc W base spare held n [z0] _ hc0
  obtain rfl : z0 = .int .i64 b0 := by injection hk0
  obtain ⟨e1, he1⟩ := hf 1 _ rfl
  have hc1 : DataW.trod enc Try.prog W base spare held n 9 [z1] = some e1 := by simpa [cc9] using he1
  obtain ⟨b1, hk1, w1⟩ := (rd_string Try.underlying9) H enc W base spare held n [z1] _ hc1
  obtain rfl : z1 = .string b1 := by injection hk1
  obtain ⟨e2, he2⟩ := hf 2 _ rfl
  have hc2 : DataW.trod enc Try.prog W base spare held n 9 [z2] = some e2 := by simpa [cc9] using he2
  obtain ⟨b2, hk2, w2⟩ := (rd_string Try.underlying9) H enc W base spare held n [z2] _ hc2
  obtain rfl : z2 = .string b2 := by injection hk2
  obtain ⟨e3, he3⟩ := hf 3 _ rfl
  have hc3 : DataW.trod enc Try.prog W base spare held n 3 [z3] = some e3 := by simpa [cc3] using he3
  obtain ⟨b3, hk3, w3⟩ := (rd_int Try.underlying3) H enc W base spare held n [z3] _ hc3
  obtain rfl : z3 = .int .i64 b3 := by injection hk3
  obtain ⟨e4, he4⟩ := hf 4 _ rfl
  have hc4 : DataW.trod enc Try.prog W base spare held n 3 [z4] = some e4 := by simpa [cc3] using he4
  obtain ⟨b4, hk4, w4⟩ := (rd_int Try.underlying3) H enc W base spare held n [z4] _ hc4
  obtain rfl : z4 = .int .i64 b4 := by injection hk4
  exact ⟨⟨b0, b1, b2, b3, b4⟩, k_LItem_mk W ⟨b0, b1, b2, b3, b4⟩ , ⟨w0, w1, w2, w3, w4⟩⟩
theorem open_LRow {H : Type} {enc : TypeId × Value → H} {W : World} {base : Nat} {spare : Nat → Bool} {held : Bool} {fuel : Nat} {cs : List Value} {x : DataW H × List MemPlace} (h : DataW.trod enc Try.prog W base spare held fuel 53 cs = some x) :
    ∃ (b0 : Int) (b1 : Int) (b2 : List S_LItem) (A2 : Option Addr) (c2 : Nat), cs = [.int .i64 b0, .int .i64 b1, .slice A2 b2.length c2] ∧ ((Lit.int .i64 b0).wf = true) ∧ ((Lit.int .i64 b1).wf = true) ∧ (b2.length ≤ maxLen ∧ ∀ y ∈ b2, WF_LItem y) ∧ b2.length ≤ c2 ∧ Kd.C k_LItem W A2 b2.length b2 := by
  obtain ⟨hl, n, hf⟩ := rd_fields Try.underlying53 h
  have hl' : cs.length = 3 := hl.trans (by kernel_rfl)
  obtain ⟨z0, z1, z2, rfl⟩ := cells_3 hl'
  have cc3 : Try.prog.cellsOf 3 = 1 := by kernel_rfl
  have cc51 : Try.prog.cellsOf 51 = 1 := by kernel_rfl
  obtain ⟨e0, he0⟩ := hf 0 _ rfl
  have hc0 : DataW.trod enc Try.prog W base spare held n 3 [z0] = some e0 := by simpa [cc3] using he0
  obtain ⟨b0, hk0, w0⟩ := (rd_int Try.underlying3) H enc W base spare held n [z0] _ hc0
  obtain rfl : z0 = .int .i64 b0 := by injection hk0
  obtain ⟨e1, he1⟩ := hf 1 _ rfl
  have hc1 : DataW.trod enc Try.prog W base spare held n 3 [z1] = some e1 := by simpa [cc3] using he1
  obtain ⟨b1, hk1, w1⟩ := (rd_int Try.underlying3) H enc W base spare held n [z1] _ hc1
  obtain rfl : z1 = .int .i64 b1 := by injection hk1
  obtain ⟨e2, he2⟩ := hf 2 _ rfl
  have hc2 : DataW.trod enc Try.prog W base spare held n 51 [z2] = some e2 := by simpa [cc51] using he2
  obtain ⟨b2, hk2, w2⟩ := (rd_slice Try.underlying51 (by kernel_rfl) rd_LItem) H enc W base spare held n [z2] _ hc2
  obtain ⟨A2, c2, hz2, l2, g2⟩ := hk2
  obtain rfl : z2 = .slice A2 b2.length c2 := by injection hz2
  exact ⟨b0, b1, b2, A2, c2, rfl, w0, w1, w2, l2, g2⟩
end Go.Proofs.Ytiknkolclcdajaa.R

/- Small words for plain proofs: what comes to its answer at enough rounds, one step at a time; whole numbers of 64 bits. No condition. -/
namespace Go.Proofs.Ytiknkolclcdajaa.L
open Go.RowKit Go.Proofs.YtiknkolclcdajaaW.PrintWords Go.Proofs.YtiknkolclcdajaaW.PrintLast Go.Proofs.YtiknkolclcdajaaW.PrintMore

theorem ev_pos {α : Type} {c : Prop} [Decidable c] {f g : Nat → Option α} {r : α} (h : c) (k : Ev f r) : Ev (fun n => if c then f n else g n) r := by
  simpa only [if_pos h] using k
theorem ev_neg {α : Type} {c : Prop} [Decidable c] {f g : Nat → Option α} {r : α} (h : ¬ c) (k : Ev g r) : Ev (fun n => if c then f n else g n) r := by
  simpa only [if_neg h] using k
theorem ev_ite {α : Type} {c : Prop} [Decidable c] {f g : Nat → Option α} {r : α} (h : c → Ev f r) (k : ¬ c → Ev g r) : Ev (fun n => if c then f n else g n) r := by
  by_cases hc : c
  · exact ev_pos hc (h hc)
  · exact ev_neg hc (k hc)
theorem ev_some {α β : Type} {g : Option α} {f : Nat → α → Option β} {a : α} {r : β} (h : g = some a) (k : Ev (fun n => f n a) r) : Ev (fun n => g.bind (f n)) r := by
  subst h
  exact k
theorem ev_bind {α β : Type} {g : Nat → Option α} {f : Nat → α → Option β} {a : α} {r : β} (h : Ev g a) (k : Ev (fun n => f n a) r) : Ev (fun n => (g n).bind (f n)) r := Ev.bind h k
/-- one round more -/
theorem ev_step {α : Type} {g f : Nat → Option α} {r : α} (h : ∀ k, g (k + 1) = f k) (k : Ev f r) : Ev g r := Ev.step h k
theorem ev_eq {α : Type} {g : Nat → Option α} {r r' : α} (h : r = r') (k : Ev g r) : Ev g r' := h ▸ k
theorem ev_now {α : Type} {r r' : α} (h : r = r') : Ev (fun _ => some r) r' := h ▸ Ev.now r

theorem wf_i64 {x : Int} (h : (Lit.int .i64 x).wf = true) : -9223372036854775808 ≤ x ∧ x ≤ 9223372036854775807 := by
  simp [Lit.wf, IntKind.min, IntKind.max, IntKind.bits, IntKind.signed] at h
  exact h
theorem wf_u8 {x : Int} (h : (Lit.int .u8 x).wf = true) : 0 ≤ x ∧ x ≤ 255 := by
  simp [Lit.wf, IntKind.min, IntKind.max, IntKind.bits, IntKind.signed] at h
  exact h
theorem w64 {x : Int} (h0 : -9223372036854775808 ≤ x) (h1 : x ≤ 9223372036854775807) : wrap64 x = x := by
  unfold wrap64
  omega
theorem rd_eq (xs : List Int) (i : Nat) (h : i < xs.length) : rd xs (i : Int) = xs[i] := by
  simp [rd, List.getD_eq_getElem?_getD, h]
end Go.Proofs.Ytiknkolclcdajaa.L

/- The plain side of the laws' own words on items and rows: copies, comparisons, sizes. Condition: lists of at most 2^20 elements behind the size's test. -/
namespace Go.Proofs.Ytiknkolclcdajaa.L
open Go.RowKit Go.Proofs.YtiknkolclcdajaaW.PrintWords Go.Proofs.YtiknkolclcdajaaW.PrintLast Go.Proofs.YtiknkolclcdajaaW.PrintMore Go.Proofs.Ytiknkolclcdajaa.Q

/-- an item of the laws as one of the program -/
def item (x : S_LItem) : S_Item := ⟨x.f0, x.f1, x.f2, x.f3, x.f4⟩
def items (l : List S_LItem) : List S_Item := l.map item
theorem items_len (l : List S_LItem) : (items l).length = l.length := by simp [items]
theorem rdL (l : List S_LItem) (i : Nat) (h : i < l.length) : rd_LItem l (i : Int) = l[i] := by
  simp [rd_LItem, List.getD_eq_getElem?_getD, h]
theorem rdI (l : List S_Item) (i : Nat) (h : i < l.length) : rd_Item l (i : Int) = l[i] := by
  simp [rd_Item, List.getD_eq_getElem?_getD, h]
theorem toItemS_l0 (l : List S_LItem) (hn : l.length ≤ 1048576) : ∀ (d i : Nat) (acc : List S_Item), i + d = l.length → acc.length = l.length → Ev (fun k => laws_toItemS.l0 k l acc (i : Int)) (acc.take i ++ (items l).drop i) := by
  intro d
  induction d with
  | zero =>
    intro i acc h1 h2
    refine ev_step (fun _ => rfl) (ev_neg (by omega) (ev_now ?_))
    simp [List.take_of_length_le (show acc.length ≤ i by omega), List.drop_eq_nil_of_le (show (items l).length ≤ i by rw [items_len]; omega)]
  | succ d ih =>
    intro i acc h1 h2
    refine ev_step (fun _ => rfl) (ev_pos (by omega) (ev_pos (by omega) (ev_some rfl (ev_pos (by omega) ?_))))
    have e : wrap64 ((i : Int) + 1) = ((i + 1 : Nat) : Int) := by rw [w64 (by omega) (by omega)]; omega
    rw [e, Int.toNat_natCast, rdL l i (by omega)]
    refine ev_eq ?_ (ih (i + 1) (acc.set i (item l[i])) (by omega) (by simp; omega))
    rw [List.take_succ_eq_append_getElem (by simp; omega), List.take_set_of_le (Nat.le_refl i), List.getElem_set_self, List.drop_eq_getElem_cons (show i < (items l).length by rw [items_len]; omega)]
    simp [items]
theorem toItemS (l : List S_LItem) (hn : l.length ≤ 1048576) : Ev (fun k => laws_toItemS.f k l) (items l) := by
  refine ev_pos (by omega) (ev_pos (by omega) ?_)
  have := toItemS_l0 l hn l.length 0 (List.replicate ((l.length : Int)).toNat z_Item) (by omega) (by simp)
  simpa using this
theorem toRow (a b : Int) (l : List S_LItem) (hn : l.length ≤ 1048576) : Ev (fun k => laws_toRow.f k a b l) (a, b, items l) := ev_bind (toItemS l hn) (ev_now rfl)
theorem eqItem (x : S_Item) : laws_eqItem.f x.f0 x.f1 x.f2 x.f3 x.f4 x.f0 x.f1 x.f2 x.f3 x.f4 = some true := by simp [laws_eqItem.f]
theorem eqItemS_l0 (l : List S_Item) (hn : l.length ≤ 4194304) : ∀ (d i : Nat), i + d = l.length → Ev (fun k => laws_eqItemS.l0 k l l (i : Int)) true := by
  intro d
  induction d with
  | zero => intro i h; exact ev_step (fun _ => rfl) (ev_neg (by omega) (ev_now rfl))
  | succ d ih =>
    intro i h
    refine ev_step (fun _ => rfl) (ev_pos (by omega) (ev_pos (by omega) (ev_pos (by omega) (ev_some (eqItem _) (ev_pos rfl ?_)))))
    have e : wrap64 ((i : Int) + 1) = ((i + 1 : Nat) : Int) := by rw [w64 (by omega) (by omega)]; omega
    rw [e]
    exact ih (i + 1) (by omega)
theorem eqItemS (l : List S_Item) (hn : l.length ≤ 4194304) : Ev (fun k => laws_eqItemS.f k l l) true := ev_pos rfl (eqItemS_l0 l hn l.length 0 (by omega))
theorem eqRow (a b : Int) (l : List S_Item) (hn : l.length ≤ 4194304) : Ev (fun k => laws_eqRow.f k a b l a b l) true := ev_pos rfl (ev_pos rfl (ev_bind (eqItemS l hn) (ev_pos rfl (ev_now rfl))))
/-- what is known of an item's texts that came in -/
def okL (x : S_LItem) : Prop := x.f1.size ≤ maxLen ∧ x.f2.size ≤ maxLen
theorem szItem (x : S_LItem) (a : Int) (hx : okL x) (h0 : 0 ≤ a) (h1 : a ≤ 1048576) : ∃ r, laws_szItem.f x.f0 x.f1 x.f2 x.f3 x.f4 a = some r ∧ r ≤ 1048576 := by
  unfold okL maxLen at hx
  have e : wrap64 (a - (x.f1.size : Int)) = a - (x.f1.size : Int) := w64 (by omega) (by omega)
  unfold laws_szItem.f
  rw [e]
  split
  · exact ⟨_, rfl, by omega⟩
  · have e2 : wrap64 (a - (x.f1.size : Int) - (x.f2.size : Int)) = a - (x.f1.size : Int) - (x.f2.size : Int) := w64 (by omega) (by omega)
    rw [e2]
    split
    · exact ⟨_, rfl, by omega⟩
    · exact ⟨_, rfl, by omega⟩
theorem szItemS_l0 (l : List S_LItem) (hl : ∀ x ∈ l, okL x) (hn : l.length ≤ 1048576) : ∀ (d i : Nat) (a : Int), i + d = l.length → 0 ≤ a → a ≤ 1048576 → ∃ r, r ≤ 1048576 ∧ Ev (fun k => laws_szItemS.l0 k l a (i : Int)) r := by
  intro d
  induction d with
  | zero => intro i a h h0 h1; exact ⟨a, h1, ev_step (fun _ => rfl) (ev_neg (by omega) (ev_now rfl))⟩
  | succ d ih =>
    intro i a h h0 h1
    have hm : rd_LItem l (i : Int) ∈ l := by rw [rdL l i (by omega)]; exact List.getElem_mem _
    obtain ⟨r, hr, hr1⟩ := szItem _ a (hl _ hm) h0 h1
    have e : wrap64 ((i : Int) + 1) = ((i + 1 : Nat) : Int) := by rw [w64 (by omega) (by omega)]; omega
    by_cases hneg : r < 0
    · exact ⟨-1, by omega, ev_step (fun _ => rfl) (ev_pos (by omega) (ev_pos (by omega) (ev_some hr (ev_pos hneg (ev_now rfl)))))⟩
    · obtain ⟨q, hq, hq2⟩ := ih (i + 1) r (by omega) (by omega) hr1
      refine ⟨q, hq, ev_step (fun _ => rfl) (ev_pos (by omega) (ev_pos (by omega) (ev_some hr (ev_neg hneg ?_))))⟩
      rw [e]
      exact hq2
theorem szRow (a b : Int) (l : List S_LItem) (hl : l.length ≤ maxLen) (hx : ∀ x ∈ l, okL x) : ∃ r, Ev (fun k => laws_szRow.f k a b l 1048576) r ∧ (0 ≤ r → l.length ≤ 1048576) := by
  unfold maxLen at hl
  have e : wrap64 (1048576 - (l.length : Int)) = 1048576 - (l.length : Int) := w64 (by omega) (by omega)
  by_cases h : 1048576 - (l.length : Int) < 0
  · refine ⟨-1, ev_bind (a := -1) ?_ (ev_pos (by omega) (ev_now rfl)), fun q => absurd q (by omega)⟩
    exact ev_pos (by rw [e]; exact h) (ev_now rfl)
  · obtain ⟨r, hr1, hr⟩ := szItemS_l0 l hx (by omega) l.length 0 (1048576 - (l.length : Int)) (by omega) (by omega) (by omega)
    refine ⟨if r < 0 then -1 else r, ev_bind (a := r) ?_ (ev_ite (fun q => ev_now (by rw [if_pos q])) (fun q => ev_now (by rw [if_neg q]))), fun _ => by omega⟩
    refine ev_neg (by rw [e]; exact h) ?_
    rw [e]
    exact hr
end Go.Proofs.Ytiknkolclcdajaa.L

/- The plain side of the laws' marks on items and rows. Condition: lists of at most 2^20 elements. -/
namespace Go.Proofs.Ytiknkolclcdajaa.L
open Go.RowKit Go.Proofs.YtiknkolclcdajaaW.PrintWords Go.Proofs.YtiknkolclcdajaaW.PrintLast Go.Proofs.YtiknkolclcdajaaW.PrintMore Go.Proofs.Ytiknkolclcdajaa.Q

/-- the text of a mark: the digits of k ahead of acc, behind an m -/
def mtl : Nat → Int → ByteArray → ByteArray
  | 0, _, acc => ⟨#[109]⟩ ++ acc
  | d + 1, k, acc => if k > 0 then mtl d (k / 10) (strOfNums [(48 + k % 10) % 256] ++ acc) else ⟨#[109]⟩ ++ acc
theorem strOne (x : Int) : (strOfNums [x]).size = 1 := by simp [strOfNums, ByteArray.size]
theorem markText_l0 (d : Nat) : ∀ (k : Int) (acc : ByteArray), k < 10 ^ d → k ≤ 1152921504606846976 → acc.size + d ≤ 1000 → Ev (fun n => laws_markText.l0 n k acc) (mtl d k acc) := by
  induction d with
  | zero =>
    intro k acc h1 h2 h3
    exact ev_step (fun _ => rfl) (ev_neg (by omega) (ev_pos (by omega) (ev_now rfl)))
  | succ d ih =>
    intro k acc h1 h2 h3
    unfold mtl
    refine ev_step (fun _ => rfl) (ev_ite (fun h => ?_) (fun h => ?_))
    · rw [if_pos h]
      have e1 : wrap64 (48 + Int.tmod k 10) = 48 + k % 10 := by rw [Int.tmod_eq_emod_of_nonneg (by omega)]; exact w64 (by omega) (by omega)
      have e2 : wrap64 (Int.tdiv k 10) = k / 10 := by rw [Int.tdiv_eq_ediv_of_nonneg (by omega)]; exact w64 (by omega) (by omega)
      have hk : k / 10 < 10 ^ d := by rw [Int.pow_succ] at h1; omega
      rw [e1, e2]
      have hs := strOne ((48 + k % 10) % 256)
      refine ev_some rfl (ev_pos (by omega) ?_)
      refine ih (k / 10) _ hk (by omega) ?_
      rw [ByteArray.size_append]
      omega
    · rw [if_neg h]
      exact ev_pos (by omega) (ev_now rfl)
/-- the text of a mark -/
def mt (k : Nat) : ByteArray := if k = 0 then ⟨#[109, 48]⟩ else mtl 18 (k : Int) ⟨#[]⟩
theorem markText (k : Nat) (h : k ≤ 1152921504606846) : Ev (fun n => laws_markText.f n (k : Int)) (mt k) := by
  unfold mt
  refine ev_ite (fun q => ?_) (fun q => ?_)
  · exact ev_now (by rw [if_pos (by omega)])
  · rw [if_neg (by omega)]
    exact markText_l0 18 (k : Int) ⟨#[]⟩ (by omega) (by omega) (by simp [ByteArray.size])
/-- an item's mark -/
def mItem (q : Nat) : S_Item := ⟨(q : Int), mt (q + 1), mt (q + 2), ((q + 3 : Nat) : Int), ((q + 4 : Nat) : Int)⟩
def mItems (q n : Nat) : List S_Item := (List.range n).map fun i => mItem (q + 5 * i)
theorem mItems_len (q n : Nat) : (mItems q n).length = n := by simp [mItems]
theorem rdN (l : List S_Item) (i : Nat) (h : i < l.length) : rd_Item l (i : Int) = l[i] := by
  simp [rd_Item, List.getD_eq_getElem?_getD, h]
theorem rdSet (l : List S_Item) (i : Nat) (h : i < l.length) (x : S_Item) : rd_Item (l.set i x) (i : Int) = x := by
  rw [rdN _ i (by simpa using h)]
  simp
/-- one more, as a number of 64 bits -/
theorem wN (x : Nat) (h : x ≤ 4611686018427387904) : wrap64 ((x : Int) + 1) = ((x + 1 : Nat) : Int) := by
  rw [w64 (by omega) (by omega)]
  omega
theorem markItemS_l0 (q n : Nat) (hq : q ≤ 1073741824) (hn : n ≤ 1048577) : ∀ (d i : Nat) (acc : List S_Item), i + d = n → acc.length = n → acc.take i = mItems q i →
    Ev (fun k => laws_markItemS.l0 k acc ((q + 5 * i : Nat) : Int) (i : Int)) (((q + 5 * n : Nat) : Int), mItems q n) := by
  intro d
  induction d with
  | zero =>
    intro i acc h1 h2 h3
    obtain rfl : i = n := by omega
    refine ev_step (fun _ => by rw [laws_markItemS.l0]) (ev_neg (by omega) (ev_now ?_))
    rw [← h3, List.take_of_length_le (by omega)]
  | succ d ih =>
    intro i acc h1 h2 h3
    have hi : i < acc.length := by omega
    have hz : (i : Int) < (acc.length : Int) := by omega
    have h0 : (0 : Int) ≤ (i : Int) := by omega
    have b1 : q + 5 * i + 4 ≤ 1152921504606846 := by omega
    have b2 : i ≤ 4611686018427387904 := by omega
    have t1 := markText (q + 5 * i + 1) (by omega)
    have t2 := markText (q + 5 * i + 2) (by omega)
    have hlast := ih (i + 1) (acc.set i (mItem (q + 5 * i))) (by omega) (by simp; omega) (by
      rw [List.take_succ_eq_append_getElem (by simp; omega), List.take_set_of_le (Nat.le_refl i), List.getElem_set_self, h3]
      simp [mItems, List.range_succ])
    have w1 := wN (q + 5 * i) (by omega)
    have w2 := wN (q + 5 * i + 1) (by omega)
    have w3 := wN (q + 5 * i + 2) (by omega)
    have w4 := wN (q + 5 * i + 3) (by omega)
    have w5 := wN (q + 5 * i + 4) (by omega)
    have e := wN i b2
    clear b1 b2 hq hn h1 h2 h3 ih
    refine ev_step (fun _ => by rw [laws_markItemS.l0]) (ev_pos hz (ev_pos h0 ?_))
    simp only [w1, w2, w3, w4, w5, e, Int.toNat_natCast]
    refine ev_some rfl (ev_bind t1 (ev_some rfl (ev_bind t2 (ev_some rfl (ev_some rfl ?_)))))
    simp only [List.set_set, rdSet _ i hi]
    exact hlast
theorem markItemS (q : Nat) (l : List S_Item) (hq : q ≤ 1073741824) (hn : l.length ≤ 1048577) : Ev (fun k => laws_markItemS.f k l (q : Int)) (((q + 5 * l.length : Nat) : Int), mItems q l.length) := markItemS_l0 q l.length hq hn l.length 0 l (by omega) rfl (by simp [mItems])
theorem heldItemS_l0 (q n : Nat) (hq : q ≤ 1073741824) (hn : n ≤ 1048577) : ∀ (d i : Nat), i + d = n → Ev (fun k => laws_heldItemS.l0 k (mItems q n) ((q + 5 * i : Nat) : Int) (i : Int)) ((q + 5 * n : Nat) : Int) := by
  intro d
  induction d with
  | zero =>
    intro i h1
    obtain rfl : i = n := by omega
    exact ev_step (fun _ => by rw [laws_heldItemS.l0]) (ev_neg (by rw [mItems_len]; omega) (ev_now rfl))
  | succ d ih =>
    intro i h1
    have w1 : wrap64 (((q + 5 * i : Nat) : Int) + 1) = ((q + 5 * i + 1 : Nat) : Int) := by rw [w64 (by omega) (by omega)]; omega
    have w2 : wrap64 (((q + 5 * i + 1 : Nat) : Int) + 1) = ((q + 5 * i + 2 : Nat) : Int) := by rw [w64 (by omega) (by omega)]; omega
    have w3 : wrap64 (((q + 5 * i + 2 : Nat) : Int) + 1) = ((q + 5 * i + 3 : Nat) : Int) := by rw [w64 (by omega) (by omega)]; omega
    have w4 : wrap64 (((q + 5 * i + 3 : Nat) : Int) + 1) = ((q + 5 * i + 4 : Nat) : Int) := by rw [w64 (by omega) (by omega)]; omega
    have w5 : wrap64 (((q + 5 * i + 4 : Nat) : Int) + 1) = ((q + 5 * (i + 1) : Nat) : Int) := by rw [w64 (by omega) (by omega)]; omega
    have e : wrap64 ((i : Int) + 1) = ((i + 1 : Nat) : Int) := by rw [w64 (by omega) (by omega)]; omega
    have hl : (i : Int) < ((mItems q n).length : Int) := by rw [mItems_len]; omega
    have h0 : (0 : Int) ≤ (i : Int) := by omega
    have hr : rd_Item (mItems q n) (i : Int) = mItem (q + 5 * i) := by
      rw [rdN _ i (by omega)]
      simp [mItems]
    have t1 := markText (q + 5 * i + 1) (by omega)
    have t2 := markText (q + 5 * i + 2) (by omega)
    refine ev_step (fun _ => by rw [laws_heldItemS.l0]) ?_
    refine ev_pos hl ?_
    refine ev_step (fun _ => by rw [laws_heldItemS.j1]) ?_
    refine ev_pos h0 (ev_pos hl (ev_pos (by rw [hr]; rfl) ?_))
    refine ev_step (fun _ => by rw [laws_heldItemS.j2]) ?_
    rw [w1]
    refine ev_pos h0 (ev_pos hl (ev_bind t1 (ev_pos (by rw [hr]; rfl) ?_)))
    refine ev_step (fun _ => by rw [laws_heldItemS.j3]) ?_
    rw [w2]
    refine ev_pos h0 (ev_pos hl (ev_bind t2 (ev_pos (by rw [hr]; rfl) ?_)))
    refine ev_step (fun _ => by rw [laws_heldItemS.j4]) ?_
    rw [w3, w4, w5, e]
    refine ev_pos h0 (ev_pos hl (ev_pos (by rw [hr]; rfl) (ev_pos (by rw [hr]; rfl) ?_)))
    exact ih (i + 1) (by omega)
theorem heldItemS (q n : Nat) (hq : q ≤ 1073741824) (hn : n ≤ 1048577) : Ev (fun k => laws_heldItemS.f k (mItems q n) (q : Int)) ((q + 5 * n : Nat) : Int) := heldItemS_l0 q n hq hn n 0 (by omega)
theorem markRow (a b : Int) (l : List S_Item) (hn : l.length ≤ 1048577) : Ev (fun k => laws_markRow.f k a b l 1) (((1 + 5 * l.length : Nat) : Int), mItems 1 l.length) := ev_bind (markItemS 1 l (by omega) hn) (ev_now rfl)
theorem heldRow (a b : Int) (n : Nat) (hn : n ≤ 1048577) : Ev (fun k => laws_heldRow.f k a b (mItems 1 n) 1) ((1 + 5 * n : Nat) : Int) := ev_bind (heldItemS 1 n (by omega) hn) (ev_neg (by omega) (ev_now rfl))
end Go.Proofs.Ytiknkolclcdajaa.L

/- The plain side of numbers within bounds: program and reference come to one answer. No condition. -/
namespace Go.Proofs.Ytiknkolclcdajaa.L
open Go.RowKit Go.Proofs.YtiknkolclcdajaaW.PrintWords Go.Proofs.YtiknkolclcdajaaW.PrintLast Go.Proofs.YtiknkolclcdajaaW.PrintMore Go.Proofs.Ytiknkolclcdajaa.Q

/-- is a number within bounds -/
def inb (x a b : Int) : Bool := decide (a ≤ x) && decide (x ≤ b)
theorem specIn (x a b : Int) : spec_l1In.f x a b = some (inb x a b) := by
  unfold spec_l1In.f inb
  by_cases h : x ≥ a
  · rw [if_pos h]; simp [show a ≤ x from h]
  · rw [if_neg h]; simp [show ¬ a ≤ x from h]
theorem implIn (x a b : Int) : impl_within.f x a b = some (inb x a b) := by
  unfold impl_within.f inb
  by_cases h : x ≥ a
  · rw [if_pos h]; simp [show a ≤ x from h]
  · rw [if_neg h]; simp [show ¬ a ≤ x from h]
theorem inb_true {x a b : Int} : inb x a b = true ↔ a ≤ x ∧ x ≤ b := by simp [inb]
theorem ev_and {g : Nat → Option Bool} {c d : Bool} (h : c = true → Ev g d) : Ev (fun n => if c = true then (g n) else some false) (c && d) := by
  cases c with
  | false => exact ev_neg (by simp) (ev_now rfl)
  | true => exact ev_pos rfl (by simpa using h rfl)

end Go.Proofs.Ytiknkolclcdajaa.L

/- The plain side of right texts: program and reference come to one answer. Condition: texts of at most 2^63 - 1 bytes, as any text that is read. -/
namespace Go.Proofs.Ytiknkolclcdajaa.L
open Go.RowKit Go.Proofs.YtiknkolclcdajaaW.PrintWords Go.Proofs.YtiknkolclcdajaaW.PrintLast Go.Proofs.YtiknkolclcdajaaW.PrintMore Go.Proofs.Ytiknkolclcdajaa.Q

/-- may a byte stand in a text -/
def okB (b : Int) : Prop := 97 ≤ b ∧ b ≤ 122 ∨ 48 ≤ b ∧ b ≤ 57 ∨ b = 32
instance (b : Int) : Decidable (okB b) := by unfold okB; infer_instance
/-- are all bytes from i on right -/
def okFrom (s : ByteArray) : Nat → Nat → Bool
  | 0, _ => true
  | d + 1, i => decide (okB (bt s i)) && okFrom s d (i + 1)
/-- what wordsOk comes to -/
def words (s : ByteArray) : Bool := okFrom s s.size 0 && decide ((s.size : Int) ≤ 30)
theorem specText_l0 (s : ByteArray) (hs : s.size ≤ 9223372036854775807) : ∀ (d i : Nat), i + d = s.size → Ev (fun k => spec_l2Text.l0 k s (i : Int)) (okFrom s d i && decide ((s.size : Int) ≤ 30)) := by
  intro d
  induction d with
  | zero => intro i h; exact ev_step (fun _ => rfl) (ev_neg (by omega) (ev_now (by simp [okFrom])))
  | succ d ih =>
    intro i h
    have e : wrap64 ((i : Int) + 1) = ((i + 1 : Nat) : Int) := by rw [w64 (by omega) (by omega)]; omega
    have cont : okB (bt s i) → Ev (fun k => spec_l2Text.l0 k s (wrap64 ((i : Int) + 1))) (okFrom s (d + 1) i && decide ((s.size : Int) ≤ 30)) := fun q => by rw [e]; simpa [okFrom, q] using ih (i + 1) (by omega)
    have stop : ¬ okB (bt s i) → Ev (fun _ => some false) (okFrom s (d + 1) i && decide ((s.size : Int) ≤ 30)) := fun q => ev_now (by simp [okFrom, q])
    refine ev_step (fun _ => rfl) (ev_pos (by omega) (ev_pos (by omega) ?_))
    repeat' refine ev_ite (fun _ => ?_) (fun _ => ?_)
    all_goals first | (refine cont ?_; unfold okB; omega) | (refine stop ?_; unfold okB; omega)
theorem implText_l0 (s : ByteArray) (hs : s.size ≤ 9223372036854775807) : ∀ (d i : Nat), i + d = s.size → Ev (fun k => impl_wordsOk.l0 k s (i : Int)) (okFrom s d i && decide ((s.size : Int) ≤ 30)) := by
  intro d
  induction d with
  | zero => intro i h; exact ev_step (fun _ => rfl) (ev_neg (by omega) (ev_now (by simp [okFrom])))
  | succ d ih =>
    intro i h
    have e : wrap64 ((i : Int) + 1) = ((i + 1 : Nat) : Int) := by rw [w64 (by omega) (by omega)]; omega
    have cont : okB (bt s i) → Ev (fun k => impl_wordsOk.l0 k s (wrap64 ((i : Int) + 1))) (okFrom s (d + 1) i && decide ((s.size : Int) ≤ 30)) := fun q => by rw [e]; simpa [okFrom, q] using ih (i + 1) (by omega)
    have stop : ¬ okB (bt s i) → Ev (fun _ => some false) (okFrom s (d + 1) i && decide ((s.size : Int) ≤ 30)) := fun q => ev_now (by simp [okFrom, q])
    refine ev_step (fun _ => rfl) (ev_pos (by omega) (ev_pos (by omega) ?_))
    repeat' refine ev_ite (fun _ => ?_) (fun _ => ?_)
    all_goals first | (refine cont ?_; unfold okB; omega) | (refine stop ?_; unfold okB; omega)
theorem specWords (s : ByteArray) (hs : s.size ≤ 9223372036854775807) : Ev (fun k => spec_l2Text.f k s) (words s) := specText_l0 s hs s.size 0 (by omega)
theorem implWords (s : ByteArray) (hs : s.size ≤ 9223372036854775807) : Ev (fun k => impl_wordsOk.f k s) (words s) := implText_l0 s hs s.size 0 (by omega)
theorem ev_last {g : Nat → Option Bool} {d : Bool} (h : Ev g d) : Ev (fun n => (g n).bind fun t => some t) d := Ev.bind h (Ev.now d)
end Go.Proofs.Ytiknkolclcdajaa.L

/- The plain side of RowOk: program and reference come to one answer. Condition: lists of at most 2^22 elements, texts as they are read. -/
namespace Go.Proofs.Ytiknkolclcdajaa.L
open Go.RowKit Go.Proofs.YtiknkolclcdajaaW.PrintWords Go.Proofs.YtiknkolclcdajaaW.PrintLast Go.Proofs.YtiknkolclcdajaaW.PrintMore Go.Proofs.Ytiknkolclcdajaa.Q

/-- what is known of an item's texts -/
def okI (x : S_Item) : Prop := x.f1.size ≤ 9223372036854775807 ∧ x.f2.size ≤ 9223372036854775807
/-- is an item right by itself -/
def itemOk (x : S_Item) : Bool := words x.f1 && (words x.f2 && (inb x.f3 0 3 && inb x.f4 0 100000))
/-- is the item at i right in its row -/
def okAt (a b : Int) (l : List S_Item) (i : Nat) : Bool :=
  itemOk (rd_Item l (i : Int)) && (inb (rd_Item l (i : Int)).f0 a (wrap64 (b - 1)) && !(decide (0 < i) && decide ((rd_Item l ((i : Int) - 1)).f0 ≥ (rd_Item l (i : Int)).f0)))
def allAt (a b : Int) (l : List S_Item) : Nat → Nat → Bool
  | 0, _ => true
  | d + 1, i => okAt a b l i && allAt a b l d (i + 1)
/-- is a row right, its items left out -/
def rowHead (a b : Int) (l : List S_Item) : Bool := inb a 0 b && (decide (b ≤ 100000) && decide ((l.length : Int) ≤ 80))
def rowOk (a b : Int) (l : List S_Item) : Bool := allAt a b l l.length 0 && rowHead a b l
theorem specItemOk (x : S_Item) (hx : okI x) : Ev (fun k => spec_l3Item.f k x.f0 x.f1 x.f2 x.f3 x.f4) (itemOk x) :=
  ev_bind (specWords _ hx.1) (ev_and fun _ => ev_bind (specWords _ hx.2) (ev_and fun _ => ev_some (specIn _ _ _) (ev_and fun _ => ev_some (specIn _ _ _) (ev_now rfl))))
theorem specHead (a b : Int) (l : List S_Item) : Ev (fun k => spec_RowOk.j3 k a b l) (rowHead a b l) := by
  refine ev_step (fun _ => by rw [spec_RowOk.j3]) (ev_some (specIn _ _ _) (ev_and fun _ => ?_))
  by_cases h : b ≤ 100000
  · exact ev_pos h (ev_now (by simp [h]))
  · exact ev_neg h (ev_now (by simp [h]))
theorem specRow_l0 (a b : Int) (l : List S_Item) (hl : ∀ x ∈ l, okI x) (hn : l.length ≤ 4194304) : ∀ (d i : Nat), i + d = l.length → Ev (fun k => spec_RowOk.l0 k (i : Int) a b l) (allAt a b l d i && rowHead a b l) := by
  intro d
  induction d with
  | zero => intro i h; exact ev_step (fun _ => by rw [spec_RowOk.l0]) (ev_neg (by omega) (by simpa [allAt] using specHead a b l))
  | succ d ih =>
    intro i h
    have hm : okI (rd_Item l (i : Int)) := by rw [rdI l i (by omega)]; exact hl _ (List.getElem_mem _)
    have e : wrap64 ((i : Int) + 1) = ((i + 1 : Nat) : Int) := by rw [w64 (by omega) (by omega)]; omega
    have stop : ∀ c : Bool, c = true → okAt a b l i = false → Ev (fun k => spec_RowOk.j2 k (i : Int) c a b l) (allAt a b l (d + 1) i && rowHead a b l) := fun c hc q => ev_step (fun _ => by rw [spec_RowOk.j2]) (ev_pos hc (ev_now (by simp [allAt, q])))
    have cont : ∀ c : Bool, c = false → okAt a b l i = true → Ev (fun k => spec_RowOk.j2 k (i : Int) c a b l) (allAt a b l (d + 1) i && rowHead a b l) := fun c hc q => ev_step (fun _ => by rw [spec_RowOk.j2]) (ev_neg (by simp [hc]) (by rw [e]; simpa [allAt, q] using ih (i + 1) (by omega)))
    have hw : 0 < i → wrap64 ((i : Int) - 1) = (i : Int) - 1 := fun q => w64 (by omega) (by omega)
    refine ev_step (fun _ => by rw [spec_RowOk.l0]) (ev_pos (by omega) ?_)
    refine ev_step (fun _ => by rw [spec_RowOk.j1]) (ev_pos (by omega) (ev_pos (by omega) (ev_bind (specItemOk _ hm) ?_)))
    by_cases h1 : itemOk (rd_Item l (i : Int)) = true
    · refine ev_pos h1 (ev_some (specIn _ _ _) ?_)
      by_cases h2 : inb (rd_Item l (i : Int)).f0 a (wrap64 (b - 1)) = true
      · refine ev_pos h2 ?_
        by_cases h3 : 0 < i
        · refine ev_pos (by omega) ?_
          rw [hw h3]
          refine ev_pos (by omega) (ev_pos (by omega) ?_)
          by_cases h4 : (rd_Item l ((i : Int) - 1)).f0 ≥ (rd_Item l (i : Int)).f0
          · exact stop _ (by simpa using h4) (by simp [okAt, h3]; intro _ _; simpa using h4)
          · exact cont _ (by simpa using h4) (by simp [okAt, h1, h2]; exact Or.inr (by omega))
        · exact ev_neg (by omega) (cont _ rfl (by simp [okAt, h1, h2]; exact Or.inl (by omega)))
      · exact ev_neg h2 (stop _ rfl (by simp [okAt, h2]))
    · exact ev_neg h1 (stop _ rfl (by simp [okAt, h1]))
theorem specRowOk (a b : Int) (l : List S_Item) (hl : ∀ x ∈ l, okI x) (hn : l.length ≤ 4194304) : Ev (fun k => spec_RowOk.f k a b l) (rowOk a b l) := specRow_l0 a b l hl hn l.length 0 (by omega)
theorem implRow_l0 (a b : Int) (l : List S_Item) (hl : ∀ x ∈ l, okI x) (hn : l.length ≤ 4194304) : ∀ (d i : Nat), i + d = l.length → Ev (fun k => impl_RowOk.l0 k l (l.length : Int) (i : Int) a b l) (allAt a b l d i) := by
  intro d
  induction d with
  | zero =>
    intro i h
    refine ev_step (fun _ => by rw [impl_RowOk.l0]) ?_
    exact ev_neg (by omega) (ev_now rfl)
  | succ d ih =>
    intro i h
    have hm : okI (rd_Item l (i : Int)) := by rw [rdI l i (by omega)]; exact hl _ (List.getElem_mem _)
    have e : wrap64 ((i : Int) + 1) = ((i + 1 : Nat) : Int) := by rw [w64 (by omega) (by omega)]; omega
    have stop : ∀ c : Bool, c = true → okAt a b l i = false → Ev (fun k => impl_RowOk.j4 k l (l.length : Int) (i : Int) c a b l) (allAt a b l (d + 1) i) := fun c hc q => ev_step (fun _ => by rw [impl_RowOk.j4]) (ev_pos hc (ev_now (by simp [allAt, q])))
    have cont : ∀ c : Bool, c = false → okAt a b l i = true → Ev (fun k => impl_RowOk.j4 k l (l.length : Int) (i : Int) c a b l) (allAt a b l (d + 1) i) := fun c hc q => ev_step (fun _ => by rw [impl_RowOk.j4]) (ev_neg (by simp [hc]) (by rw [e]; simpa [allAt, q] using ih (i + 1) (by omega)))
    have hw : 0 < i → wrap64 ((i : Int) - 1) = (i : Int) - 1 := fun q => w64 (by omega) (by omega)
    refine ev_step (fun _ => by rw [impl_RowOk.l0]) (ev_pos (by omega) ?_)
    refine ev_step (fun _ => by rw [impl_RowOk.j3]) (ev_pos (by omega) (ev_pos (by omega) (ev_some (implIn _ _ _) ?_)))
    have hpre : inb (rd_Item l (i : Int)).f0 a (wrap64 (b - 1)) = true → (0 < i → ¬ (rd_Item l ((i : Int) - 1)).f0 ≥ (rd_Item l (i : Int)).f0) → okAt a b l i = itemOk (rd_Item l (i : Int)) := fun h2 h3 => by
      have : (!(decide (0 < i) && decide ((rd_Item l ((i : Int) - 1)).f0 ≥ (rd_Item l (i : Int)).f0))) = true := by
        by_cases q : 0 < i
        · simp [q]; simpa using h3 q
        · simp [q]
      rw [okAt, h2, this]
      simp
    by_cases h2 : inb (rd_Item l (i : Int)).f0 a (wrap64 (b - 1)) = true
    · refine ev_pos h2 ?_
      have body : okAt a b l i = itemOk (rd_Item l (i : Int)) → Ev (fun k => (impl_wordsOk.f k ((rd_Item l (i : Int)).f1)).bind fun t1 => if t1 = true then ((impl_wordsOk.f k ((rd_Item l (i : Int)).f2)).bind fun t2 => if t2 = true then ((impl_within.f ((rd_Item l (i : Int)).f3) 0 3).bind fun t3 => if t3 = true then ((impl_within.f ((rd_Item l (i : Int)).f4) 0 100000).bind fun t4 => impl_RowOk.j4 k l (l.length : Int) (i : Int) (!t4) a b l) else impl_RowOk.j4 k l (l.length : Int) (i : Int) true a b l) else impl_RowOk.j4 k l (l.length : Int) (i : Int) true a b l) else impl_RowOk.j4 k l (l.length : Int) (i : Int) true a b l) (allAt a b l (d + 1) i) := fun hq => by
        refine ev_bind (implWords _ hm.1) ?_
        by_cases k1 : words (rd_Item l (i : Int)).f1 = true
        · refine ev_pos k1 (ev_bind (implWords _ hm.2) ?_)
          by_cases k2 : words (rd_Item l (i : Int)).f2 = true
          · refine ev_pos k2 (ev_some (implIn _ _ _) ?_)
            by_cases k3 : inb (rd_Item l (i : Int)).f3 0 3 = true
            · refine ev_pos k3 (ev_some (implIn _ _ _) ?_)
              by_cases k4 : inb (rd_Item l (i : Int)).f4 0 100000 = true
              · exact cont _ (by simp [k4]) (by rw [hq]; simp [itemOk, k1, k2, k3, k4])
              · exact stop _ (by simp [k4]) (by rw [hq]; simp [itemOk, k4])
            · exact ev_neg k3 (stop _ rfl (by rw [hq]; simp [itemOk, k3]))
          · exact ev_neg k2 (stop _ rfl (by rw [hq]; simp [itemOk, k2]))
        · exact ev_neg k1 (stop _ rfl (by rw [hq]; simp [itemOk, k1]))
      by_cases h3 : 0 < i
      · refine ev_pos (by omega) ?_
        rw [hw h3]
        refine ev_pos (by omega) (ev_pos (by omega) ?_)
        by_cases h4 : (rd_Item l ((i : Int) - 1)).f0 ≥ (rd_Item l (i : Int)).f0
        · exact ev_pos h4 (stop _ rfl (by simp [okAt, h3]; intro _ _; simpa using h4))
        · exact ev_neg h4 (body (hpre h2 fun _ => h4))
      · exact ev_neg (by omega) (body (hpre h2 fun q => absurd q h3))
    · exact ev_neg h2 (stop _ rfl (by simp [okAt, h2]))
theorem implRowOk (a b : Int) (l : List S_Item) (hl : ∀ x ∈ l, okI x) (hn : l.length ≤ 4194304) : Ev (fun k => impl_RowOk.f k a b l) (rowOk a b l) := by
  have go : ∀ c : Bool, Ev (fun k => impl_RowOk.j0 k c a b l) (!c && allAt a b l l.length 0) := fun c => by
    refine ev_step (fun _ => by rw [impl_RowOk.j0]) ?_
    cases c with
    | true => exact ev_pos rfl (ev_now rfl)
    | false =>
      refine ev_neg (by simp) (ev_step (fun _ => by rw [impl_RowOk.j1]) ?_)
      simpa using implRow_l0 a b l hl hn l.length 0 (by omega)
  refine ev_some (implIn _ _ _) ?_
  by_cases h1 : inb a 0 b = true
  · refine ev_pos h1 ?_
    by_cases h2 : b > 100000
    · exact ev_pos h2 (ev_eq (by simp [rowOk, rowHead, show ¬ b ≤ 100000 by omega]) (go true))
    · refine ev_neg h2 (ev_eq ?_ (go _))
      by_cases h3 : (l.length : Int) > 80
      · simp [rowOk, rowHead, show ¬ ((l.length : Int) ≤ 80) by omega, show (80 : Int) < (l.length : Int) by omega]
      · simp [rowOk, rowHead, h1, show b ≤ 100000 by omega, show (l.length : Int) ≤ 80 by omega, show ¬ ((80 : Int) < (l.length : Int)) by omega]
  · exact ev_neg h1 (ev_eq (by simp [rowOk, rowHead, h1]) (go true))
end Go.Proofs.Ytiknkolclcdajaa.L

/- Copies of rows: program and reference come to the row itself. Condition: lists of at most 2^20 + 1 elements. -/
namespace Go.Proofs.Ytiknkolclcdajaa.L
open Go.RowKit Go.Proofs.YtiknkolclcdajaaW.PrintWords Go.Proofs.YtiknkolclcdajaaW.PrintLast Go.Proofs.YtiknkolclcdajaaW.PrintMore Go.Proofs.Ytiknkolclcdajaa.Q

theorem specCopyRow (a b : Int) (l : List S_Item) (hn : l.length ≤ 1048577) : spec_l3Copy.f a b l = some (a, b, l) := by
  unfold spec_l3Copy.f
  simp only [Option.bind_some, List.length_nil, List.nil_append]
  rw [if_pos (by omega)]
theorem implCopyRow (a b : Int) (l : List S_Item) (hn : l.length ≤ 1048577) : impl_copyRow.f a b l = some (a, b, l) := by
  unfold impl_copyRow.f
  simp only [List.length_nil, List.nil_append]
  rw [if_pos (by omega)]
end Go.Proofs.Ytiknkolclcdajaa.L

/- The plain side of RowPack: program and reference come to one answer. Condition: lists of at most 2^20 elements, texts as they are read. -/
namespace Go.Proofs.Ytiknkolclcdajaa.L
open Go.RowKit Go.Proofs.YtiknkolclcdajaaW.PrintWords Go.Proofs.YtiknkolclcdajaaW.PrintLast Go.Proofs.YtiknkolclcdajaaW.PrintMore Go.Proofs.Ytiknkolclcdajaa.Q

/-- does an item of a key stand from i on -/
def beh (key : ByteArray) (l : List S_Item) : Nat → Nat → Bool
  | 0, _ => false
  | d + 1, i => decide ((rd_Item l (i : Int)).f1.toList = key.toList) || beh key l d (i + 1)
/-- is the item at i kept -/
def keepAt (n b : Int) (l : List S_Item) (i : Nat) : Bool :=
  decide ((rd_Item l (i : Int)).f1.toList = ([] : List UInt8)) || (!beh (rd_Item l (i : Int)).f1 l (l.length - (i + 1)) (i + 1) || decide (wrap64 (Int.tdiv (rd_Item l (i : Int)).f0 n) = wrap64 (Int.tdiv (wrap64 (b - 1)) n)))
def packL (n b : Int) (l : List S_Item) : Nat → Nat → List S_Item
  | 0, _ => []
  | d + 1, i => if keepAt n b l i = true then rd_Item l (i : Int) :: packL n b l d (i + 1) else packL n b l d (i + 1)
theorem packL_len (n b : Int) (l : List S_Item) : ∀ (d i : Nat), (packL n b l d i).length ≤ d := by
  intro d
  induction d with
  | zero => intro i; simp [packL]
  | succ d ih =>
    intro i
    have := ih (i + 1)
    unfold packL
    split
    · simp only [List.length_cons]; omega
    · omega
/-- what RowPack comes to -/
def rowPack (a b : Int) (l : List S_Item) (n : Int) : Int × Int × List S_Item := if 1 ≤ n ∧ rowOk a b l = true then (a, b, packL n b l l.length 0) else (a, b, l)
theorem rowPack_len (a b : Int) (l : List S_Item) (n : Int) : (rowPack a b l n).2.2.length ≤ l.length := by
  unfold rowPack
  split
  · exact packL_len n b l l.length 0
  · exact Nat.le_refl _
theorem behind_l0 (a b : Int) (l : List S_Item) (hn : l.length ≤ 1048576) (i : Nat) (hi : i < l.length) : ∀ (d j : Nat), j + d = l.length → Ev (fun k => spec_l3Behind.l0 k (i : Int) (j : Int) a b l) (beh (rd_Item l (i : Int)).f1 l d j) := by
  intro d
  induction d with
  | zero =>
    intro j h
    refine ev_step (fun _ => by rw [spec_l3Behind.l0]) ?_
    exact ev_neg (by omega) (ev_now rfl)
  | succ d ih =>
    intro j h
    have e : wrap64 ((j : Int) + 1) = ((j + 1 : Nat) : Int) := by rw [w64 (by omega) (by omega)]; omega
    refine ev_step (fun _ => by rw [spec_l3Behind.l0]) ?_
    refine ev_pos (by omega) (ev_pos (by omega) (ev_pos (by omega) (ev_pos (by omega) ?_)))
    rw [e]
    refine ev_ite (fun q => ev_now (by simp [beh, q])) (fun q => ?_)
    refine ev_eq ?_ (ih (j + 1) (by omega))
    simp [beh, q]
theorem behind (a b : Int) (l : List S_Item) (hn : l.length ≤ 1048576) (i : Nat) (hi : i < l.length) : Ev (fun k => spec_l3Behind.f k a b l (i : Int)) (beh (rd_Item l (i : Int)).f1 l (l.length - (i + 1)) (i + 1)) := by
  have e : wrap64 ((i : Int) + 1) = ((i + 1 : Nat) : Int) := by rw [w64 (by omega) (by omega)]; omega
  show Ev (fun k => spec_l3Behind.l0 k (i : Int) (wrap64 ((i : Int) + 1)) a b l) _
  rw [e]
  exact behind_l0 a b l hn i hi _ _ (by omega)
theorem keyAt_beh (key : ByteArray) (l : List S_Item) : ∀ (d i : Nat), decide (0 ≤ keyAt key l d i) = beh key l d i := by
  intro d
  induction d with
  | zero => intro i; simp [keyAt, beh]
  | succ d ih =>
    intro i
    unfold keyAt beh
    by_cases q : (rd_Item l (i : Int)).f1.toList = key.toList
    · rw [if_pos q]
      simp [q]
    · rw [if_neg q, ih (i + 1)]
      simp [q]
theorem rd_drop (l : List S_Item) (m i : Nat) : rd_Item (l.drop m) (i : Int) = rd_Item l ((m + i : Nat) : Int) := by
  unfold rd_Item
  simp only [List.getD_eq_getElem?_getD, List.getElem?_drop, Int.toNat_natCast]
theorem beh_drop (key : ByteArray) (l : List S_Item) (m : Nat) : ∀ (d i : Nat), beh key (l.drop m) d i = beh key l d (m + i) := by
  intro d
  induction d with
  | zero => intro i; rfl
  | succ d ih =>
    intro i
    unfold beh
    rw [rd_drop, ih (i + 1)]
    rfl
theorem contains (key : ByteArray) (l : List S_Item) (m : Nat) : slices_ContainsFunc_RowPack.f (l.drop m) key = some (beh key l (l.length - m) m) := by
  unfold slices_ContainsFunc_RowPack.f
  rw [keyAt_beh, beh_drop, List.length_drop]
  rfl
theorem specPack_l0 (a b n : Int) (l : List S_Item) (h1 : 1 ≤ n) (hn : l.length ≤ 1048576) : ∀ (d i : Nat) (acc : List S_Item), i + d = l.length → acc.length + d ≤ 1048576 →
    Ev (fun k => spec_RowPack.l0 k n (i : Int) a b l a b acc) (a, b, acc ++ packL n b l d i) := by
  intro d
  induction d with
  | zero =>
    intro i acc h q
    refine ev_step (fun _ => by rw [spec_RowPack.l0]) ?_
    exact ev_neg (by omega) (ev_now (by simp [packL]))
  | succ d ih =>
    intro i acc h q
    have e : wrap64 ((i : Int) + 1) = ((i + 1 : Nat) : Int) := by rw [w64 (by omega) (by omega)]; omega
    have put : ∀ c : Bool, c = keepAt n b l i → Ev (fun k => spec_RowPack.j4 k n (i : Int) c a b l a b acc (rd_Item l (i : Int)).f0 (rd_Item l (i : Int)).f1 (rd_Item l (i : Int)).f2 (rd_Item l (i : Int)).f3 (rd_Item l (i : Int)).f4) (a, b, acc ++ packL n b l (d + 1) i) := fun c hc => by
      refine ev_step (fun _ => by rw [spec_RowPack.j4]) ?_
      rw [e]
      cases hk : keepAt n b l i with
      | true =>
        rw [hk] at hc
        refine ev_pos hc (ev_pos (by omega) (ev_eq ?_ (ih (i + 1) (acc ++ [rd_Item l (i : Int)]) (by omega) (by simp only [List.length_append, List.length_singleton]; omega))))
        simp [packL, hk]
      | false =>
        rw [hk] at hc
        refine ev_neg (by simp [hc]) (ev_eq ?_ (ih (i + 1) acc (by omega) (by omega)))
        simp [packL, hk]
    refine ev_step (fun _ => by rw [spec_RowPack.l0]) ?_
    refine ev_pos (by omega) (ev_step (fun _ => by rw [spec_RowPack.j3]) ?_)
    refine ev_pos (by omega) (ev_pos (by omega) ?_)
    by_cases q1 : (rd_Item l (i : Int)).f1.toList = ([] : List UInt8)
    · exact ev_pos q1 (put true (by simp [keepAt, q1]))
    · refine ev_neg q1 (ev_bind (behind a b l hn i (by omega)) ?_)
      cases q2 : beh (rd_Item l (i : Int)).f1 l (l.length - (i + 1)) (i + 1) with
      | true =>
        refine ev_pos rfl (ev_neg (by omega) (put _ ?_))
        rw [keepAt, q2, decide_eq_false q1]
        simp only [Bool.not_true, Bool.false_or]
        exact Bool.beq_eq_decide_eq _ _
      | false => exact ev_neg (by simp) (put true (by rw [keepAt, q2]; simp))
theorem implPack_l0 (a b n : Int) (l : List S_Item) (h1 : 1 ≤ n) (hn : l.length ≤ 1048576) : ∀ (d i : Nat) (acc : List S_Item), i + d = l.length → acc.length + d ≤ 1048576 →
    Ev (fun k => impl_RowPack.l0 k n l (l.length : Int) (i : Int) a b l a b acc) (a, b, acc ++ packL n b l d i) := by
  intro d
  induction d with
  | zero =>
    intro i acc h q
    refine ev_step (fun _ => by rw [impl_RowPack.l0]) ?_
    exact ev_neg (by omega) (ev_now (by simp [packL]))
  | succ d ih =>
    intro i acc h q
    have e : wrap64 ((i : Int) + 1) = ((i + 1 : Nat) : Int) := by rw [w64 (by omega) (by omega)]; omega
    have put : keepAt n b l i = true → Ev (fun k => if acc.length < 2513169434916 then (impl_RowPack.l0 k n l (l.length : Int) ((i + 1 : Nat) : Int) a b l a b (acc ++ [(⟨(rd_Item l (i : Int)).f0, (rd_Item l (i : Int)).f1, (rd_Item l (i : Int)).f2, (rd_Item l (i : Int)).f3, (rd_Item l (i : Int)).f4⟩ : S_Item)])) else none) (a, b, acc ++ packL n b l (d + 1) i) := fun hk => by
      refine ev_pos (by omega) (ev_eq ?_ (ih (i + 1) (acc ++ [rd_Item l (i : Int)]) (by omega) (by simp only [List.length_append, List.length_singleton]; omega)))
      simp [packL, hk]
    refine ev_step (fun _ => by rw [impl_RowPack.l0]) ?_
    rw [e]
    refine ev_pos (by omega) (ev_pos (by omega) (ev_pos (by omega) ?_))
    by_cases q1 : (rd_Item l (i : Int)).f1.toList = ([] : List UInt8)
    · exact ev_pos q1 (put (by simp [keepAt, q1]))
    · refine ev_neg q1 (ev_pos (by omega) (ev_pos (by omega) (ev_some (contains _ l (i + 1)) ?_)))
      cases q2 : beh (rd_Item l (i : Int)).f1 l (l.length - (i + 1)) (i + 1) with
      | true =>
        refine ev_pos rfl (ev_neg (by omega) ?_)
        by_cases q3 : wrap64 (Int.tdiv (rd_Item l (i : Int)).f0 n) = wrap64 (Int.tdiv (wrap64 (b - 1)) n)
        · exact ev_pos q3 (put (by rw [keepAt, q2, decide_eq_true q3]; simp))
        · refine ev_neg q3 (ev_eq ?_ (ih (i + 1) acc (by omega) (by omega)))
          have : keepAt n b l i = false := by rw [keepAt, q2, decide_eq_false q3, decide_eq_false q1]; rfl
          simp [packL, this]
      | false => exact ev_neg (by simp) (put (by rw [keepAt, q2]; simp))
theorem specRowPack (a b : Int) (l : List S_Item) (n : Int) (hl : ∀ x ∈ l, okI x) (hn : l.length ≤ 1048576) : Ev (fun k => spec_RowPack.f k a b l n) (rowPack a b l n) := by
  have no : ¬ (1 ≤ n ∧ rowOk a b l = true) → ∀ c : Bool, c = true → Ev (fun k => spec_RowPack.j0 k n c a b l) (rowPack a b l n) := fun q c hc => by
    refine ev_step (fun _ => by rw [spec_RowPack.j0]) ?_
    exact ev_pos hc (ev_some (specCopyRow a b l (by omega)) (ev_now (by unfold rowPack; rw [if_neg q])))
  refine ev_ite (fun h => no (by omega) _ rfl) (fun h => ev_bind (specRowOk a b l hl (by omega)) ?_)
  cases hok : rowOk a b l with
  | false => exact no (by rw [hok]; simp) _ rfl
  | true =>
    refine ev_step (fun _ => by rw [spec_RowPack.j0]) ?_
    refine ev_neg (by simp) (ev_step (fun _ => by rw [spec_RowPack.j1]) ?_)
    refine ev_eq ?_ (specPack_l0 a b n l (by omega) hn l.length 0 [] (by omega) (by simpa using hn))
    unfold rowPack
    rw [if_pos ⟨by omega, hok⟩]
    rfl
theorem implRowPack (a b : Int) (l : List S_Item) (n : Int) (hl : ∀ x ∈ l, okI x) (hn : l.length ≤ 1048576) : Ev (fun k => impl_RowPack.f k a b l n) (rowPack a b l n) := by
  have no : ¬ (1 ≤ n ∧ rowOk a b l = true) → ∀ c : Bool, c = true → Ev (fun k => impl_RowPack.j0 k n c a b l a b l) (rowPack a b l n) := fun q c hc => by
    refine ev_step (fun _ => by rw [impl_RowPack.j0]) ?_
    exact ev_pos hc (ev_now (by unfold rowPack; rw [if_neg q]))
  refine ev_some (implCopyRow a b l (by omega)) (ev_ite (fun h => no (by omega) _ rfl) (fun h => ev_bind (implRowOk a b l hl (by omega)) ?_))
  cases hok : rowOk a b l with
  | false => exact no (by rw [hok]; simp) _ rfl
  | true =>
    refine ev_step (fun _ => by rw [impl_RowPack.j0]) ?_
    refine ev_neg (by simp) ?_
    refine ev_eq ?_ (implPack_l0 a b n l (by omega) hn l.length 0 [] (by omega) (by simpa using hn))
    unfold rowPack
    rw [if_pos ⟨by omega, hok⟩]
    rfl
end Go.Proofs.Ytiknkolclcdajaa.L

/- FnExactRowPack as a plain statement: proved for all arguments. -/
namespace Go.Proofs.Ytiknkolclcdajaa.Pure
open Go.RowKit Go.Proofs.YtiknkolclcdajaaW.PrintWords Go.Proofs.YtiknkolclcdajaaW.PrintLast Go.Proofs.YtiknkolclcdajaaW.PrintMore Go.Proofs.Ytiknkolclcdajaa.Q Go.Proofs.Ytiknkolclcdajaa.L Go.Proofs.Ytiknkolclcdajaa.R

theorem okI_items2 (l : List S_LItem) (hl : ∀ y ∈ l, WF_LItem y) : ∀ x ∈ items l, okI x := by
  intro x hx
  obtain ⟨y, hy, rfl⟩ := List.mem_map.1 hx
  have := hl y hy
  have h1 := this.2.1
  have h2 := this.2.2.1
  unfold maxLen at h1 h2
  exact ⟨by show y.f1.size ≤ _; omega, by show y.f2.size ≤ _; omega⟩
theorem FnExactRowPack (a b : Int) (l : List S_LItem) (n : Int) (_ : (Lit.int .i64 a).wf = true) (_ : (Lit.int .i64 b).wf = true) (hl : l.length ≤ maxLen ∧ ∀ y ∈ l, WF_LItem y) (_ : (Lit.int .i64 n).wf = true) : ∃ k, laws_FnExactRowPack.f k a b l n = some true := by
  refine Ev.rounds (g := fun k => laws_FnExactRowPack.f k a b l n) ?_
  obtain ⟨r, hr, hs⟩ := szRow a b l hl.1 (fun x hx => ⟨(hl.2 x hx).2.1, (hl.2 x hx).2.2.1⟩)
  refine ev_bind hr (ev_ite (fun _ => ev_now rfl) (fun h => ?_))
  have hn := hs (by omega)
  have hi : (items l).length ≤ 1048576 := by rw [items_len]; exact hn
  have ho := okI_items2 l hl.2
  have e1 := specRowPack a b (items l) n ho hi
  have e2 := implRowPack a b (items l) n ho hi
  have hlen := rowPack_len a b (items l) n
  generalize rowPack a b (items l) n = v at e1 e2 hlen
  obtain ⟨va, vb, vl⟩ := v
  have hv : vl.length ≤ 1048577 := by have : vl.length ≤ (items l).length := hlen; omega
  refine ev_step (fun _ => by rw [laws_FnExactRowPack.j0]) ?_
  refine ev_bind (toRow a b l hn) (ev_bind e1 (ev_bind (toRow a b l hn) (ev_bind e2 (ev_bind (eqRow va vb vl (by omega)) (ev_pos rfl ?_)))))
  refine ev_step (fun _ => by rw [laws_FnExactRowPack.j1]) ?_
  refine ev_bind (toRow a b l hn) (ev_bind (eqRow a b (items l) (by omega)) (ev_pos rfl ?_))
  refine ev_step (fun _ => by rw [laws_FnExactRowPack.j2]) ?_
  refine ev_bind (markRow a b (items l) (by omega)) (ev_neg (by omega) (ev_bind (eqRow va vb vl (by omega)) ?_))
  refine ev_step (fun _ => by rw [laws_FnExactRowPack.j3]) ?_
  refine ev_neg (by simp) (ev_step (fun _ => by rw [laws_FnExactRowPack.j4]) ?_)
  refine ev_bind (markRow va vb vl (by omega)) (ev_bind (heldRow va vb vl.length (by omega)) (ev_neg (by omega) ?_))
  refine ev_step (fun _ => by rw [laws_FnExactRowPack.j5]) ?_
  refine ev_pos rfl (ev_step (fun _ => by rw [laws_FnExactRowPack.j6]) ?_)
  refine ev_bind (toRow a b l hn) (ev_bind e2 (ev_bind (eqRow va vb vl (by omega)) (ev_pos rfl ?_)))
  refine ev_step (fun _ => by rw [laws_FnExactRowPack.j7]) ?_
  exact ev_bind (heldRow va vb vl.length (by omega)) (ev_neg (by omega) (ev_pos rfl (ev_now rfl)))
end Go.Proofs.Ytiknkolclcdajaa.Pure

/- The law FnExactRowPack: its statement holds, for all arguments. Made by a program of ours out of the plain theorem and the walk. No condition. -/
namespace Go.Proofs.Ytiknkolclcdajaa.fnExactRowPack
open Go.ChangeShapes Go.WideShapes Go.ChangeAt Go.RowKit Go.Proofs.YtiknkolclcdajaaW.PrintWords Go.Proofs.Ytiknkolclcdajaa.Q Go.Proofs.Ytiknkolclcdajaa.R
open Go.ChangeMaps (open_string shut_string)
set_option linter.unusedVariables false
theorem own : ownKnob Try.prog.godebug = none := by kernel_rfl
theorem laidOut : laidOutB Try.prog = true := by kernel_rfl
set_option maxRecDepth 100000 in
theorem lifted (os : Os) (started : os.Started) (H : Type) (enc : TypeId × Value → H) :
    ReturnsInHanded {} Try.checked os 7 .any (Rows.fnExactRowPackSpec.pre6 enc Try.prog Try.f7 Rows.fnExactRowPackRow.domain false) (Rows.fnExactRowPackSpec.post enc Try.prog Try.f7 false true false false) := by
  refine returnsInHanded_of_change_sized (C := Try.checked) own started (by kernel_rfl) Try.func7
    (ChangeSpec.witness6 (enc := enc) (C := Try.checked) false ⟨#[], #[.agg #[.int .i64 0, .int .i64 0, .slice none 0 0], .int .i64 0], []⟩ 8 (by kernel_rfl) (by kernel_rfl) (by kernel_rfl) (by kernel_rfl)) ?_
  intro W base args ds gs before hval0 hW hcnd hsz0 _
  have hval : ∀ (j : Nat) t v, Try.f7.params[j]? = some t → args[j]? = some v → Value.okWide Try.prog W .any base t v := hval0
  have hW' := hW
  obtain ⟨p, q, hA0, hV, rfl, hfz, hnd⟩ := hW
  have hA : DataW.TrodAll enc Try.prog W 0 (fun _ => true) true Try.f7.params.toList args.toList ds p := hA0
  rw [Try.params7] at hA hval
  obtain ⟨v0, vs0, d0, ds0, p0, q0, hargs, rfl, rfl, h0, r0⟩ := trodAll_cons hA
  obtain ⟨v1, vs1, d1, ds1, p1, q1, rfl, rfl, rfl, h1, r1⟩ := trodAll_cons r0
  obtain ⟨rfl, rfl, rfl⟩ := trodAll_nil r1
  obtain rfl : args = #[v0, v1] := by cases args; simp_all
  obtain ⟨rfl, rfl⟩ := trodVars_none hV
  have k0 := h0
  have lt0 : ∀ x ∈ p0, x.block < W.heap.size := by obtain ⟨m, hm⟩ := k0; exact DataW.trod_lt m _ _ _ hm
  obtain ⟨cs0, rfl, hsz0⟩ := okWide_struct Try.underlying53 (hval 0 53 v0 rfl rfl)
  obtain ⟨fuel0, hf0⟩ := h0
  obtain ⟨a0_0, a0_1, a0_2, A0_2, c0_2, hz0, w0_0, w0_1, w0_2, hc0_2, hr0_2⟩ := open_LRow (cs := cs0.toList) hf0
  obtain rfl : cs0 = #[.int .i64 a0_0, .int .i64 a0_1, .slice A0_2 a0_2.length c0_2] := by apply Array.toList_inj.mp; exact hz0
  have k1 := h1
  have lt1 : ∀ x ∈ p1, x.block < W.heap.size := by obtain ⟨m, hm⟩ := k1; exact DataW.trod_lt m _ _ _ hm
  obtain ⟨a1, rfl, rfl, rfl, w1⟩ := open_int Try.underlying3 (hval 1 3 v1 rfl rfl) h1
  clear hA0 hval0 hsz0
  obtain ⟨k, hk⟩ := Pure.FnExactRowPack a0_0 a0_1 a0_2 a1 w0_0 w0_1 w0_2 w1
  refine (laws_FnExactRowPack.calls (w := W) (hr0_2 := hr0_2) (hc0_2 := hc0_2) (h := hk)).mono fun e W' he => ?_
  obtain ⟨rfl, bel0⟩ := he
  have bel : Below W.heap.size W W' := by first | exact bel0 | exact Drawn0.below bel0
  exact ⟨_, rfl, _, _, _, [], _, [], hW', trodAll_mk1 (shut_bool Try.underlying4 _), (trodAll_cons_mk (Below.trod laidOut (by kernel_rfl) (of_decide_eq_true (by kernel_rfl)) k0 bel lt0) (trodAll_cons_mk (Below.trod laidOut (by kernel_rfl) (of_decide_eq_true (by kernel_rfl)) k1 bel lt1) trodAll_mk0)), rfl, bel.frame _, fun h => by cases h⟩
theorem over : Rows.fnExactRowPackRow.holds Try.pinned (OpenSpec.ofChange Rows.fnExactRowPackSpec) :=
  OpenClaim.holds_of_wide 7 Try.f7 rfl rfl rfl rfl rfl rfl rfl ⟨rfl, rfl, rfl, rfl, rfl⟩ rfl rfl rfl rfl rfl (by kernel_rfl) Try.func7 (by kernel_rfl)
    (of_decide_eq_true (by kernel_rfl)) (by unfold Func.isWrapper; first | (rw [if_pos (by decide +kernel)]; kernel_rfl) | (rw [if_neg (by decide +kernel)]; exact ⟨rfl, rfl⟩))
    (fun os started H enc _ => lifted os started H enc)
end Go.Proofs.Ytiknkolclcdajaa.fnExactRowPack
namespace Go.Proofs.Ytiknkolclcdajaa
/-- The row, under a short name, for the claim. -/
theorem fnExactRowPack_holds : Rows.FnExactRowPackSaid := fnExactRowPack.over
#print axioms fnExactRowPack_holds
end Go.Proofs.Ytiknkolclcdajaa

