/- The law FnExactRowTrim holds, for all arguments: its row, and behind it the plain side of what the program and the reference compute. Conditions: those that each theorem states; the row has none. -/
import Derived.Test.YthmjhhkheohgfaaRows
import Derived.Deep.Slices
import Derived.ChangeArms
import Derived.WideShapes
import Derived.WalkKit
import Derived.ProofKit
import Derived.OpenShut
import Derived.ShutString
import Derived.ChangeOld
import Derived.Below
import Derived.SizedLaws
import Derived.Test.YthmjhhkheohgfaaZXRowTrim0
import Derived.Test.YthmjhhkheohgfaaZXRowTrima
import Derived.Test.YthmjhhkheohgfaaZXRowTrimb
import Derived.Test.YthmjhhkheohgfaaZXRowTrimc
import Derived.Test.YthmjhhkheohgfaaZXRowTrimd
import Derived.Test.YthmjhhkheohgfaaZXRowTrime
/- What is read as data is of a printed kind: whole numbers, texts, structs of one-cell fields, slices. For the laws' rows. No condition. -/
namespace Go.Proofs.Ythmjhhkheohgfaa.R
open Go.RowKit Go.Proofs.YthmjhhkheohgfaaW.PrintWords Go.WideShapes

/-- Whatever is read as data of type t has cells that are of kind d. -/
def Rd {α : Type} (P : Program) (t : TypeId) (d : Kd α) (wf : α → Prop) : Prop :=
  ∀ (H : Type) (enc : TypeId × Value → H) (W : World) (base : Nat) (spare : Nat → Bool) (held : Bool) (fuel : Nat) (cs : List Value) (x : DataW H × List MemPlace),
    DataW.trod enc P W base spare held fuel t cs = some x → ∃ a, d.K W a cs ∧ wf a
theorem rd_int {P : Program} {t : TypeId} {k : IntKind} (ht : P.underlying t = some (.int k)) : Rd P t (Kd.int k) (fun n => (Lit.int k n).wf = true) := by
  intro H enc W base spare held fuel cs x h
  obtain ⟨n, rfl, _, hw⟩ := DataW.trod_int ht h
  exact ⟨n, rfl, hw⟩
theorem rd_string {P : Program} {t : TypeId} (ht : P.underlying t = some .string) : Rd P t Kd.string (fun s => s.size ≤ maxLen) := by
  intro H enc W base spare held fuel cs x h
  obtain ⟨s, rfl, _, hw⟩ := DataW.trod_string ht h
  exact ⟨s, rfl, hw⟩
theorem rd_slice {α : Type} {P : Program} {t e : TypeId} {d : Kd α} {wf : α → Prop} (ht : P.underlying t = some (.slice e)) (hs : P.cellsOf e = d.sz) (hr : Rd P e d wf) :
    Rd P t (Kd.slice e d) (fun xs => xs.length ≤ maxLen ∧ ∀ x ∈ xs, wf x) := by
  intro H enc W base spare held fuel cs x h
  rcases Go.Deep.open_slice ht h with ⟨rfl, _⟩ | ⟨a, len, cap, m, n, D, Pl, rfl, hb, hl, hm, hmm, _, hx⟩
  · exact ⟨[], ⟨none, 0, rfl, Nat.le_refl _, rfl, by simp, fun h0 => absurd h0 (by simp)⟩, by simp, by simp⟩
  · have hml : len ≤ m := by rw [hmm]; split <;> omega
    have key : ∀ i, i < len → ∃ p : α, wf p ∧ ∃ c, c.length = d.sz ∧ d.K W p c ∧ ∀ q u, c[q]? = some u → W.cell? (a.add (i * d.sz + q)) = some u := by
      intro i hi
      obtain ⟨cs', h1, h2⟩ := hx i (by omega)
      obtain ⟨p, hp, hw⟩ := hr H enc W base spare held n cs' _ h2
      obtain ⟨_, hlen, hc⟩ := World.cells?_some h1
      rw [hs] at hlen hc
      refine ⟨p, hw, cs', hlen, hp, fun q u hq => ?_⟩
      have hq' : q < d.sz := by
        have := (List.getElem?_eq_some_iff.1 hq).1
        omega
      rw [← hq, ← hc q hq', Go.Deep.add_add]
    have key2 : ∃ f : Nat → Option α, ∀ i, i < len → ∃ p, f i = some p ∧ wf p ∧ ∃ c, c.length = d.sz ∧ d.K W p c ∧ ∀ q u, c[q]? = some u → W.cell? (a.add (i * d.sz + q)) = some u := by
      classical
      refine ⟨fun i => if hi : i < len then some (Classical.choose (key i hi)) else none, fun i hi => ⟨Classical.choose (key i hi), by simp [hi], Classical.choose_spec (key i hi)⟩⟩
    obtain ⟨f, hf⟩ := key2
    have hlen : ∀ k, k ≤ len → ((List.range k).filterMap f).length = k ∧ ∀ j, j < k → ((List.range k).filterMap f)[j]? = f j := by
      intro k
      induction k with
      | zero => intro _; exact ⟨rfl, fun j hj => absurd hj (by omega)⟩
      | succ k ih =>
        intro hk
        obtain ⟨i1, i2⟩ := ih (by omega)
        obtain ⟨p, hp, _⟩ := hf k (by omega)
        have e : (List.range (k + 1)).filterMap f = (List.range k).filterMap f ++ [p] := by rw [List.range_succ, List.filterMap_append]; simp [hp]
        refine ⟨by rw [e]; simp [i1], fun j hj => ?_⟩
        rw [e]
        rcases Nat.lt_or_ge j k with h1 | h1
        · rw [List.getElem?_append_left (by omega)]; exact i2 j h1
        · obtain rfl : j = k := by omega
          rw [List.getElem?_append_right (by omega), i1]; simp [hp]
    obtain ⟨i1, i2⟩ := hlen len (Nat.le_refl _)
    refine ⟨(List.range len).filterMap f, ⟨some a, cap, by rw [i1], by rw [i1]; exact hl, rfl, by rw [i1]; simp only [maxLen] at hm; omega, fun _ => ⟨a, rfl, fun j p hj => ?_⟩⟩, by rw [i1]; omega, fun p hp => ?_⟩
    · have hj' : j < len := by
        have := (List.getElem?_eq_some_iff.1 hj).1
        omega
      obtain ⟨p', hp', _, hc⟩ := hf j hj'
      rw [i2 j hj', hp'] at hj
      cases hj
      exact hc
    · obtain ⟨i, hi, hfi⟩ := List.mem_filterMap.1 hp
      obtain ⟨p', hp', hw, _⟩ := hf i (by simpa using hi)
      rw [hp'] at hfi
      cases hfi
      exact hw
/-- The fields of a struct, each of one cell, cell by cell. -/
theorem rd_fields {H : Type} {enc : TypeId × Value → H} {P : Program} {W : World} {base : Nat} {spare : Nat → Bool} {held : Bool} {fuel : Nat} {t : TypeId} {fs : Array Field} {cs : List Value} {x : DataW H × List MemPlace}
    (ht : P.underlying t = some (.struct fs)) (h : DataW.trod enc P W base spare held fuel t cs = some x) : cs.length = P.cellsOf t ∧ ∃ n, ∀ (i : Nat) (f : Field), fs[i]? = some f → ∃ y, DataW.trod enc P W base spare held n f.type ((cs.drop f.offset).take (P.cellsOf f.type)) = some y := by
  obtain ⟨xs, n, _, _, hl, hlen, hf⟩ := DataW.trod_struct ht h
  refine ⟨hl, n, fun i f hi => ?_⟩
  have hi' : i < xs.length := by
    rw [hlen]
    exact (Array.getElem?_eq_some_iff.1 hi).1
  exact ⟨xs[i], by rw [hf i f hi, List.getElem?_eq_getElem hi']⟩
end Go.Proofs.Ythmjhhkheohgfaa.R

/- How the laws' arguments of this seat are opened: what is read as data has the cells that the walks want. No condition. -/
namespace Go.Proofs.Ythmjhhkheohgfaa.R
open Go.RowKit Go.Proofs.YthmjhhkheohgfaaW.PrintWords Go.WideShapes Go.Proofs.Ythmjhhkheohgfaa.Q
set_option linter.unusedVariables false
theorem cells_3 {cs : List Value} (h : cs.length = 3) : ∃ z0 z1 z2, cs = [z0, z1, z2] := by
  match cs, h with
  | [y0, y1, y2], _ => exact ⟨y0, y1, y2, rfl⟩
theorem cells_5 {cs : List Value} (h : cs.length = 5) : ∃ z0 z1 z2 z3 z4, cs = [z0, z1, z2, z3, z4] := by
  match cs, h with
  | [y0, y1, y2, y3, y4], _ => exact ⟨y0, y1, y2, y3, y4, rfl⟩
def WF_LItem (x : S_LItem) : Prop := ((Lit.int .i64 x.f0).wf = true) ∧ (x.f1.size ≤ maxLen) ∧ (x.f2.size ≤ maxLen) ∧ ((Lit.int .i64 x.f3).wf = true) ∧ ((Lit.int .i64 x.f4).wf = true)
theorem rd_LItem : Rd Try.prog 136 k_LItem WF_LItem := by
  intro H enc W base spare held fuel cs x h
  obtain ⟨hl, n, hf⟩ := rd_fields Try.underlying136 h
  have hl' : cs.length = 5 := hl.trans (by kernel_rfl)
  obtain ⟨z0, z1, z2, z3, z4, rfl⟩ := cells_5 hl'
  have cc3 : Try.prog.cellsOf 3 = 1 := by kernel_rfl
  have cc9 : Try.prog.cellsOf 9 = 1 := by kernel_rfl
  obtain ⟨e0, he0⟩ := hf 0 _ rfl
  have hc0 : DataW.trod enc Try.prog W base spare held n 3 [z0] = some e0 := by simpa [cc3] using he0
  obtain ⟨b0, hk0, w0⟩ := (rd_int Try.underlying3) H enc W base spare held n [z0] _ hc0
  obtain rfl : z0 = .int .i64 b0 := by injection hk0
  obtain ⟨e1, he1⟩ := hf 1 _ rfl
  have hc1 : DataW.trod enc Try.prog W base spare held n 9 [z1] = some e1 := by simpa [cc9] using he1
  obtain ⟨b1, hk1, w1⟩ := (rd_string Try.underlying9) H enc W base spare held n [z1] _ hc1
  obtain rfl : z1 = .string b1 := by injection hk1
  obtain ⟨e2, he2⟩ := hf 2 _ rfl
  have hc2 : DataW.trod enc Try.prog W base spare held n 9 [z2] = some e2 := by simpa [cc9] using he2
  obtain ⟨b2, hk2, w2⟩ := (rd_string Try.underlying9) H enc W base spare held n [z2] _ hc2
  obtain rfl : z2 = .string b2 := by injection hk2
  obtain ⟨e3, he3⟩ := hf 3 _ rfl
  have hc3 : DataW.trod enc Try.prog W base spare held n 3 [z3] = some e3 := by simpa [cc3] using he3
  obtain ⟨b3, hk3, w3⟩ := (rd_int Try.underlying3) H enc W base spare held n [z3] _ hc3
  obtain rfl : z3 = .int .i64 b3 := by injection hk3
  obtain ⟨e4, he4⟩ := hf 4 _ rfl
  have hc4 : DataW.trod enc Try.prog W base spare held n 3 [z4] = some e4 := by simpa [cc3] using he4
  obtain ⟨b4, hk4, w4⟩ := (rd_int Try.underlying3) H enc W base spare held n [z4] _ hc4
  obtain rfl : z4 = .int .i64 b4 := by injection hk4
  exact ⟨⟨b0, b1, b2, b3, b4⟩, k_LItem_mk W ⟨b0, b1, b2, b3, b4⟩ , ⟨w0, w1, w2, w3, w4⟩⟩
theorem open_LRow {H : Type} {enc : TypeId × Value → H} {W : World} {base : Nat} {spare : Nat → Bool} {held : Bool} {fuel : Nat} {cs : List Value} {x : DataW H × List MemPlace} (h : DataW.trod enc Try.prog W base spare held fuel 56 cs = some x) :
    ∃ (b0 : Int) (b1 : Int) (b2 : List S_LItem) (A2 : Option Addr) (c2 : Nat), cs = [.int .i64 b0, .int .i64 b1, .slice A2 b2.length c2] ∧ ((Lit.int .i64 b0).wf = true) ∧ ((Lit.int .i64 b1).wf = true) ∧ (b2.length ≤ maxLen ∧ ∀ y ∈ b2, WF_LItem y) ∧ b2.length ≤ c2 ∧ Kd.C k_LItem W A2 b2.length b2 := by
  obtain ⟨hl, n, hf⟩ := rd_fields Try.underlying56 h
  have hl' : cs.length = 3 := hl.trans (by kernel_rfl)
  obtain ⟨z0, z1, z2, rfl⟩ := cells_3 hl'
  have cc3 : Try.prog.cellsOf 3 = 1 := by kernel_rfl
  have cc54 : Try.prog.cellsOf 54 = 1 := by kernel_rfl
  obtain ⟨e0, he0⟩ := hf 0 _ rfl
  have hc0 : DataW.trod enc Try.prog W base spare held n 3 [z0] = some e0 := by simpa [cc3] using he0
  obtain ⟨b0, hk0, w0⟩ := (rd_int Try.underlying3) H enc W base spare held n [z0] _ hc0
  obtain rfl : z0 = .int .i64 b0 := by injection hk0
  obtain ⟨e1, he1⟩ := hf 1 _ rfl
  have hc1 : DataW.trod enc Try.prog W base spare held n 3 [z1] = some e1 := by simpa [cc3] using he1
  obtain ⟨b1, hk1, w1⟩ := (rd_int Try.underlying3) H enc W base spare held n [z1] _ hc1
  obtain rfl : z1 = .int .i64 b1 := by injection hk1
  obtain ⟨e2, he2⟩ := hf 2 _ rfl
  have hc2 : DataW.trod enc Try.prog W base spare held n 54 [z2] = some e2 := by simpa [cc54] using he2
  obtain ⟨b2, hk2, w2⟩ := (rd_slice Try.underlying54 (by kernel_rfl) rd_LItem) H enc W base spare held n [z2] _ hc2
  obtain ⟨A2, c2, hz2, l2, g2⟩ := hk2
  obtain rfl : z2 = .slice A2 b2.length c2 := by injection hz2
  exact ⟨b0, b1, b2, A2, c2, rfl, w0, w1, w2, l2, g2⟩
end Go.Proofs.Ythmjhhkheohgfaa.R

/- Small words for plain proofs: what comes to its answer at enough rounds, one step at a time; whole numbers of 64 bits. No condition. -/
namespace Go.Proofs.Ythmjhhkheohgfaa.L
open Go.RowKit Go.Proofs.YthmjhhkheohgfaaW.PrintWords Go.Proofs.YthmjhhkheohgfaaW.PrintLast Go.Proofs.YthmjhhkheohgfaaW.PrintMore

theorem ev_pos {α : Type} {c : Prop} [Decidable c] {f g : Nat → Option α} {r : α} (h : c) (k : Ev f r) : Ev (fun n => if c then f n else g n) r := by
  simpa only [if_pos h] using k
theorem ev_neg {α : Type} {c : Prop} [Decidable c] {f g : Nat → Option α} {r : α} (h : ¬ c) (k : Ev g r) : Ev (fun n => if c then f n else g n) r := by
  simpa only [if_neg h] using k
theorem ev_ite {α : Type} {c : Prop} [Decidable c] {f g : Nat → Option α} {r : α} (h : c → Ev f r) (k : ¬ c → Ev g r) : Ev (fun n => if c then f n else g n) r := by
  by_cases hc : c
  · exact ev_pos hc (h hc)
  · exact ev_neg hc (k hc)
theorem ev_some {α β : Type} {g : Option α} {f : Nat → α → Option β} {a : α} {r : β} (h : g = some a) (k : Ev (fun n => f n a) r) : Ev (fun n => g.bind (f n)) r := by
  subst h
  exact k
theorem ev_bind {α β : Type} {g : Nat → Option α} {f : Nat → α → Option β} {a : α} {r : β} (h : Ev g a) (k : Ev (fun n => f n a) r) : Ev (fun n => (g n).bind (f n)) r := Ev.bind h k
/-- one round more -/
theorem ev_step {α : Type} {g f : Nat → Option α} {r : α} (h : ∀ k, g (k + 1) = f k) (k : Ev f r) : Ev g r := Ev.step h k
theorem ev_eq {α : Type} {g : Nat → Option α} {r r' : α} (h : r = r') (k : Ev g r) : Ev g r' := h ▸ k
theorem ev_now {α : Type} {r r' : α} (h : r = r') : Ev (fun _ => some r) r' := h ▸ Ev.now r

theorem w64 {x : Int} (h0 : -9223372036854775808 ≤ x) (h1 : x ≤ 9223372036854775807) : wrap64 x = x := by
  unfold wrap64
  omega
end Go.Proofs.Ythmjhhkheohgfaa.L

/- The plain side of the laws' own words on items and rows: copies, comparisons, sizes. Condition: lists of at most 2^20 elements behind the size's test. -/
namespace Go.Proofs.Ythmjhhkheohgfaa.L
open Go.RowKit Go.Proofs.YthmjhhkheohgfaaW.PrintWords Go.Proofs.YthmjhhkheohgfaaW.PrintLast Go.Proofs.YthmjhhkheohgfaaW.PrintMore Go.Proofs.Ythmjhhkheohgfaa.Q

/-- an item of the laws as one of the program -/
def item (x : S_LItem) : S_Item := ⟨x.f0, x.f1, x.f2, x.f3, x.f4⟩
def items (l : List S_LItem) : List S_Item := l.map item
theorem items_len (l : List S_LItem) : (items l).length = l.length := by simp [items]
theorem rdL (l : List S_LItem) (i : Nat) (h : i < l.length) : rd_LItem l (i : Int) = l[i] := by
  simp [rd_LItem, List.getD_eq_getElem?_getD, h]
theorem rdI (l : List S_Item) (i : Nat) (h : i < l.length) : rd_Item l (i : Int) = l[i] := by
  simp [rd_Item, List.getD_eq_getElem?_getD, h]
theorem toItemS_l0 (l : List S_LItem) (hn : l.length ≤ 1048576) : ∀ (d i : Nat) (acc : List S_Item), i + d = l.length → acc.length = l.length → Ev (fun k => laws_toItemS.l0 k l acc (i : Int)) (acc.take i ++ (items l).drop i) := by
  intro d
  induction d with
  | zero =>
    intro i acc h1 h2
    refine ev_step (fun _ => rfl) (ev_neg (by omega) (ev_now ?_))
    simp [List.take_of_length_le (show acc.length ≤ i by omega), List.drop_eq_nil_of_le (show (items l).length ≤ i by rw [items_len]; omega)]
  | succ d ih =>
    intro i acc h1 h2
    refine ev_step (fun _ => rfl) (ev_pos (by omega) (ev_pos (by omega) (ev_some rfl (ev_pos (by omega) ?_))))
    have e : wrap64 ((i : Int) + 1) = ((i + 1 : Nat) : Int) := by rw [w64 (by omega) (by omega)]; omega
    rw [e, Int.toNat_natCast, rdL l i (by omega)]
    refine ev_eq ?_ (ih (i + 1) (acc.set i (item l[i])) (by omega) (by simp; omega))
    rw [List.take_succ_eq_append_getElem (by simp; omega), List.take_set_of_le (Nat.le_refl i), List.getElem_set_self, List.drop_eq_getElem_cons (show i < (items l).length by rw [items_len]; omega)]
    simp [items]
theorem toItemS (l : List S_LItem) (hn : l.length ≤ 1048576) : Ev (fun k => laws_toItemS.f k l) (items l) := by
  refine ev_pos (by omega) (ev_pos (by omega) ?_)
  have := toItemS_l0 l hn l.length 0 (List.replicate ((l.length : Int)).toNat z_Item) (by omega) (by simp)
  simpa using this
theorem toRow (a b : Int) (l : List S_LItem) (hn : l.length ≤ 1048576) : Ev (fun k => laws_toRow.f k a b l) (a, b, items l) := ev_bind (toItemS l hn) (ev_now rfl)
theorem eqItem (x : S_Item) : laws_eqItem.f x.f0 x.f1 x.f2 x.f3 x.f4 x.f0 x.f1 x.f2 x.f3 x.f4 = some true := by simp [laws_eqItem.f]
theorem eqItemS_l0 (l : List S_Item) (hn : l.length ≤ 4194304) : ∀ (d i : Nat), i + d = l.length → Ev (fun k => laws_eqItemS.l0 k l l (i : Int)) true := by
  intro d
  induction d with
  | zero => intro i h; exact ev_step (fun _ => rfl) (ev_neg (by omega) (ev_now rfl))
  | succ d ih =>
    intro i h
    refine ev_step (fun _ => rfl) (ev_pos (by omega) (ev_pos (by omega) (ev_pos (by omega) (ev_some (eqItem _) (ev_pos rfl ?_)))))
    have e : wrap64 ((i : Int) + 1) = ((i + 1 : Nat) : Int) := by rw [w64 (by omega) (by omega)]; omega
    rw [e]
    exact ih (i + 1) (by omega)
theorem eqItemS (l : List S_Item) (hn : l.length ≤ 4194304) : Ev (fun k => laws_eqItemS.f k l l) true := ev_pos rfl (eqItemS_l0 l hn l.length 0 (by omega))
theorem eqRow (a b : Int) (l : List S_Item) (hn : l.length ≤ 4194304) : Ev (fun k => laws_eqRow.f k a b l a b l) true := ev_pos rfl (ev_pos rfl (ev_bind (eqItemS l hn) (ev_pos rfl (ev_now rfl))))
/-- what is known of an item's texts that came in -/
def okL (x : S_LItem) : Prop := x.f1.size ≤ maxLen ∧ x.f2.size ≤ maxLen
theorem szItem (x : S_LItem) (a : Int) (hx : okL x) (h0 : 0 ≤ a) (h1 : a ≤ 1048576) : ∃ r, laws_szItem.f x.f0 x.f1 x.f2 x.f3 x.f4 a = some r ∧ r ≤ 1048576 := by
  unfold okL maxLen at hx
  have e : wrap64 (a - (x.f1.size : Int)) = a - (x.f1.size : Int) := w64 (by omega) (by omega)
  unfold laws_szItem.f
  rw [e]
  split
  · exact ⟨_, rfl, by omega⟩
  · have e2 : wrap64 (a - (x.f1.size : Int) - (x.f2.size : Int)) = a - (x.f1.size : Int) - (x.f2.size : Int) := w64 (by omega) (by omega)
    rw [e2]
    split
    · exact ⟨_, rfl, by omega⟩
    · exact ⟨_, rfl, by omega⟩
theorem szItemS_l0 (l : List S_LItem) (hl : ∀ x ∈ l, okL x) (hn : l.length ≤ 1048576) : ∀ (d i : Nat) (a : Int), i + d = l.length → 0 ≤ a → a ≤ 1048576 → ∃ r, r ≤ 1048576 ∧ Ev (fun k => laws_szItemS.l0 k l a (i : Int)) r := by
  intro d
  induction d with
  | zero => intro i a h h0 h1; exact ⟨a, h1, ev_step (fun _ => rfl) (ev_neg (by omega) (ev_now rfl))⟩
  | succ d ih =>
    intro i a h h0 h1
    have hm : rd_LItem l (i : Int) ∈ l := by rw [rdL l i (by omega)]; exact List.getElem_mem _
    obtain ⟨r, hr, hr1⟩ := szItem _ a (hl _ hm) h0 h1
    have e : wrap64 ((i : Int) + 1) = ((i + 1 : Nat) : Int) := by rw [w64 (by omega) (by omega)]; omega
    by_cases hneg : r < 0
    · exact ⟨-1, by omega, ev_step (fun _ => rfl) (ev_pos (by omega) (ev_pos (by omega) (ev_some hr (ev_pos hneg (ev_now rfl)))))⟩
    · obtain ⟨q, hq, hq2⟩ := ih (i + 1) r (by omega) (by omega) hr1
      refine ⟨q, hq, ev_step (fun _ => rfl) (ev_pos (by omega) (ev_pos (by omega) (ev_some hr (ev_neg hneg ?_))))⟩
      rw [e]
      exact hq2
theorem szRow (a b : Int) (l : List S_LItem) (hl : l.length ≤ maxLen) (hx : ∀ x ∈ l, okL x) : ∃ r, Ev (fun k => laws_szRow.f k a b l 1048576) r ∧ (0 ≤ r → l.length ≤ 1048576) := by
  unfold maxLen at hl
  have e : wrap64 (1048576 - (l.length : Int)) = 1048576 - (l.length : Int) := w64 (by omega) (by omega)
  by_cases h : 1048576 - (l.length : Int) < 0
  · refine ⟨-1, ev_bind (a := -1) ?_ (ev_pos (by omega) (ev_now rfl)), fun q => absurd q (by omega)⟩
    exact ev_pos (by rw [e]; exact h) (ev_now rfl)
  · obtain ⟨r, hr1, hr⟩ := szItemS_l0 l hx (by omega) l.length 0 (1048576 - (l.length : Int)) (by omega) (by omega) (by omega)
    refine ⟨if r < 0 then -1 else r, ev_bind (a := r) ?_ (ev_ite (fun q => ev_now (by rw [if_pos q])) (fun q => ev_now (by rw [if_neg q]))), fun _ => by omega⟩
    refine ev_neg (by rw [e]; exact h) ?_
    rw [e]
    exact hr
end Go.Proofs.Ythmjhhkheohgfaa.L

/- The plain side of the laws' marks on items and rows. Condition: lists of at most 2^20 elements. -/
namespace Go.Proofs.Ythmjhhkheohgfaa.L
open Go.RowKit Go.Proofs.YthmjhhkheohgfaaW.PrintWords Go.Proofs.YthmjhhkheohgfaaW.PrintLast Go.Proofs.YthmjhhkheohgfaaW.PrintMore Go.Proofs.Ythmjhhkheohgfaa.Q

/-- the text of a mark: the digits of k ahead of acc, behind an m -/
def mtl : Nat → Int → ByteArray → ByteArray
  | 0, _, acc => ⟨#[109]⟩ ++ acc
  | d + 1, k, acc => if k > 0 then mtl d (k / 10) (strOfNums [(48 + k % 10) % 256] ++ acc) else ⟨#[109]⟩ ++ acc
theorem strOne (x : Int) : (strOfNums [x]).size = 1 := by simp [strOfNums, ByteArray.size]
theorem markText_l0 (d : Nat) : ∀ (k : Int) (acc : ByteArray), k < 10 ^ d → k ≤ 1152921504606846976 → acc.size + d ≤ 1000 → Ev (fun n => laws_markText.l0 n k acc) (mtl d k acc) := by
  induction d with
  | zero =>
    intro k acc h1 h2 h3
    exact ev_step (fun _ => rfl) (ev_neg (by omega) (ev_pos (by omega) (ev_now rfl)))
  | succ d ih =>
    intro k acc h1 h2 h3
    unfold mtl
    refine ev_step (fun _ => rfl) (ev_ite (fun h => ?_) (fun h => ?_))
    · rw [if_pos h]
      have e1 : wrap64 (48 + Int.tmod k 10) = 48 + k % 10 := by rw [Int.tmod_eq_emod_of_nonneg (by omega)]; exact w64 (by omega) (by omega)
      have e2 : wrap64 (Int.tdiv k 10) = k / 10 := by rw [Int.tdiv_eq_ediv_of_nonneg (by omega)]; exact w64 (by omega) (by omega)
      have hk : k / 10 < 10 ^ d := by rw [Int.pow_succ] at h1; omega
      rw [e1, e2]
      have hs := strOne ((48 + k % 10) % 256)
      refine ev_some rfl (ev_pos (by omega) ?_)
      refine ih (k / 10) _ hk (by omega) ?_
      rw [ByteArray.size_append]
      omega
    · rw [if_neg h]
      exact ev_pos (by omega) (ev_now rfl)
/-- the text of a mark -/
def mt (k : Nat) : ByteArray := if k = 0 then ⟨#[109, 48]⟩ else mtl 18 (k : Int) ⟨#[]⟩
theorem markText (k : Nat) (h : k ≤ 1152921504606846) : Ev (fun n => laws_markText.f n (k : Int)) (mt k) := by
  unfold mt
  refine ev_ite (fun q => ?_) (fun q => ?_)
  · exact ev_now (by rw [if_pos (by omega)])
  · rw [if_neg (by omega)]
    exact markText_l0 18 (k : Int) ⟨#[]⟩ (by omega) (by omega) (by simp [ByteArray.size])
/-- an item's mark -/
def mItem (q : Nat) : S_Item := ⟨(q : Int), mt (q + 1), mt (q + 2), ((q + 3 : Nat) : Int), ((q + 4 : Nat) : Int)⟩
def mItems (q n : Nat) : List S_Item := (List.range n).map fun i => mItem (q + 5 * i)
theorem mItems_len (q n : Nat) : (mItems q n).length = n := by simp [mItems]
theorem rdN (l : List S_Item) (i : Nat) (h : i < l.length) : rd_Item l (i : Int) = l[i] := by
  simp [rd_Item, List.getD_eq_getElem?_getD, h]
theorem rdSet (l : List S_Item) (i : Nat) (h : i < l.length) (x : S_Item) : rd_Item (l.set i x) (i : Int) = x := by
  rw [rdN _ i (by simpa using h)]
  simp
/-- one more, as a number of 64 bits -/
theorem wN (x : Nat) (h : x ≤ 4611686018427387904) : wrap64 ((x : Int) + 1) = ((x + 1 : Nat) : Int) := by
  rw [w64 (by omega) (by omega)]
  omega
theorem markItemS_l0 (q n : Nat) (hq : q ≤ 1073741824) (hn : n ≤ 1048577) : ∀ (d i : Nat) (acc : List S_Item), i + d = n → acc.length = n → acc.take i = mItems q i →
    Ev (fun k => laws_markItemS.l0 k acc ((q + 5 * i : Nat) : Int) (i : Int)) (((q + 5 * n : Nat) : Int), mItems q n) := by
  intro d
  induction d with
  | zero =>
    intro i acc h1 h2 h3
    obtain rfl : i = n := by omega
    refine ev_step (fun _ => by rw [laws_markItemS.l0]) (ev_neg (by omega) (ev_now ?_))
    rw [← h3, List.take_of_length_le (by omega)]
  | succ d ih =>
    intro i acc h1 h2 h3
    have hi : i < acc.length := by omega
    have hz : (i : Int) < (acc.length : Int) := by omega
    have h0 : (0 : Int) ≤ (i : Int) := by omega
    have b1 : q + 5 * i + 4 ≤ 1152921504606846 := by omega
    have b2 : i ≤ 4611686018427387904 := by omega
    have t1 := markText (q + 5 * i + 1) (by omega)
    have t2 := markText (q + 5 * i + 2) (by omega)
    have hlast := ih (i + 1) (acc.set i (mItem (q + 5 * i))) (by omega) (by simp; omega) (by
      rw [List.take_succ_eq_append_getElem (by simp; omega), List.take_set_of_le (Nat.le_refl i), List.getElem_set_self, h3]
      simp [mItems, List.range_succ])
    have w1 := wN (q + 5 * i) (by omega)
    have w2 := wN (q + 5 * i + 1) (by omega)
    have w3 := wN (q + 5 * i + 2) (by omega)
    have w4 := wN (q + 5 * i + 3) (by omega)
    have w5 := wN (q + 5 * i + 4) (by omega)
    have e := wN i b2
    clear b1 b2 hq hn h1 h2 h3 ih
    refine ev_step (fun _ => by rw [laws_markItemS.l0]) (ev_pos hz (ev_pos h0 ?_))
    simp only [w1, w2, w3, w4, w5, e, Int.toNat_natCast]
    refine ev_some rfl (ev_bind t1 (ev_some rfl (ev_bind t2 (ev_some rfl (ev_some rfl ?_)))))
    simp only [List.set_set, rdSet _ i hi]
    exact hlast
theorem markItemS (q : Nat) (l : List S_Item) (hq : q ≤ 1073741824) (hn : l.length ≤ 1048577) : Ev (fun k => laws_markItemS.f k l (q : Int)) (((q + 5 * l.length : Nat) : Int), mItems q l.length) := markItemS_l0 q l.length hq hn l.length 0 l (by omega) rfl (by simp [mItems])
theorem heldItemS_l0 (q n : Nat) (hq : q ≤ 1073741824) (hn : n ≤ 1048577) : ∀ (d i : Nat), i + d = n → Ev (fun k => laws_heldItemS.l0 k (mItems q n) ((q + 5 * i : Nat) : Int) (i : Int)) ((q + 5 * n : Nat) : Int) := by
  intro d
  induction d with
  | zero =>
    intro i h1
    obtain rfl : i = n := by omega
    exact ev_step (fun _ => by rw [laws_heldItemS.l0]) (ev_neg (by rw [mItems_len]; omega) (ev_now rfl))
  | succ d ih =>
    intro i h1
    have w1 : wrap64 (((q + 5 * i : Nat) : Int) + 1) = ((q + 5 * i + 1 : Nat) : Int) := by rw [w64 (by omega) (by omega)]; omega
    have w2 : wrap64 (((q + 5 * i + 1 : Nat) : Int) + 1) = ((q + 5 * i + 2 : Nat) : Int) := by rw [w64 (by omega) (by omega)]; omega
    have w3 : wrap64 (((q + 5 * i + 2 : Nat) : Int) + 1) = ((q + 5 * i + 3 : Nat) : Int) := by rw [w64 (by omega) (by omega)]; omega
    have w4 : wrap64 (((q + 5 * i + 3 : Nat) : Int) + 1) = ((q + 5 * i + 4 : Nat) : Int) := by rw [w64 (by omega) (by omega)]; omega
    have w5 : wrap64 (((q + 5 * i + 4 : Nat) : Int) + 1) = ((q + 5 * (i + 1) : Nat) : Int) := by rw [w64 (by omega) (by omega)]; omega
    have e : wrap64 ((i : Int) + 1) = ((i + 1 : Nat) : Int) := by rw [w64 (by omega) (by omega)]; omega
    have hl : (i : Int) < ((mItems q n).length : Int) := by rw [mItems_len]; omega
    have h0 : (0 : Int) ≤ (i : Int) := by omega
    have hr : rd_Item (mItems q n) (i : Int) = mItem (q + 5 * i) := by
      rw [rdN _ i (by omega)]
      simp [mItems]
    have t1 := markText (q + 5 * i + 1) (by omega)
    have t2 := markText (q + 5 * i + 2) (by omega)
    refine ev_step (fun _ => by rw [laws_heldItemS.l0]) ?_
    refine ev_pos hl ?_
    refine ev_step (fun _ => by rw [laws_heldItemS.j1]) ?_
    refine ev_pos h0 (ev_pos hl (ev_pos (by rw [hr]; rfl) ?_))
    refine ev_step (fun _ => by rw [laws_heldItemS.j2]) ?_
    rw [w1]
    refine ev_pos h0 (ev_pos hl (ev_bind t1 (ev_pos (by rw [hr]; rfl) ?_)))
    refine ev_step (fun _ => by rw [laws_heldItemS.j3]) ?_
    rw [w2]
    refine ev_pos h0 (ev_pos hl (ev_bind t2 (ev_pos (by rw [hr]; rfl) ?_)))
    refine ev_step (fun _ => by rw [laws_heldItemS.j4]) ?_
    rw [w3, w4, w5, e]
    refine ev_pos h0 (ev_pos hl (ev_pos (by rw [hr]; rfl) (ev_pos (by rw [hr]; rfl) ?_)))
    exact ih (i + 1) (by omega)
theorem heldItemS (q n : Nat) (hq : q ≤ 1073741824) (hn : n ≤ 1048577) : Ev (fun k => laws_heldItemS.f k (mItems q n) (q : Int)) ((q + 5 * n : Nat) : Int) := heldItemS_l0 q n hq hn n 0 (by omega)
theorem markRow (a b : Int) (l : List S_Item) (hn : l.length ≤ 1048577) : Ev (fun k => laws_markRow.f k a b l 1) (((1 + 5 * l.length : Nat) : Int), mItems 1 l.length) := ev_bind (markItemS 1 l (by omega) hn) (ev_now rfl)
theorem heldRow (a b : Int) (n : Nat) (hn : n ≤ 1048577) : Ev (fun k => laws_heldRow.f k a b (mItems 1 n) 1) ((1 + 5 * n : Nat) : Int) := ev_bind (heldItemS 1 n (by omega) hn) (ev_neg (by omega) (ev_now rfl))
end Go.Proofs.Ythmjhhkheohgfaa.L

/- The plain side of numbers within bounds: program and reference come to one answer. No condition. -/
namespace Go.Proofs.Ythmjhhkheohgfaa.L
open Go.RowKit Go.Proofs.YthmjhhkheohgfaaW.PrintWords Go.Proofs.YthmjhhkheohgfaaW.PrintLast Go.Proofs.YthmjhhkheohgfaaW.PrintMore Go.Proofs.Ythmjhhkheohgfaa.Q

/-- is a number within bounds -/
def inb (x a b : Int) : Bool := decide (a ≤ x) && decide (x ≤ b)
theorem specIn (x a b : Int) : spec_l1In.f x a b = some (inb x a b) := by
  unfold spec_l1In.f inb
  by_cases h : x ≥ a
  · rw [if_pos h]; simp [show a ≤ x from h]
  · rw [if_neg h]; simp [show ¬ a ≤ x from h]
theorem implIn (x a b : Int) : impl_within.f x a b = some (inb x a b) := by
  unfold impl_within.f inb
  by_cases h : x ≥ a
  · rw [if_pos h]; simp [show a ≤ x from h]
  · rw [if_neg h]; simp [show ¬ a ≤ x from h]
theorem inb_true {x a b : Int} : inb x a b = true ↔ a ≤ x ∧ x ≤ b := by simp [inb]
theorem ev_and {g : Nat → Option Bool} {c d : Bool} (h : c = true → Ev g d) : Ev (fun n => if c = true then (g n) else some false) (c && d) := by
  cases c with
  | false => exact ev_neg (by simp) (ev_now rfl)
  | true => exact ev_pos rfl (by simpa using h rfl)

end Go.Proofs.Ythmjhhkheohgfaa.L

/- The plain side of right texts: program and reference come to one answer. Condition: texts of at most 2^63 - 1 bytes, as any text that is read. -/
namespace Go.Proofs.Ythmjhhkheohgfaa.L
open Go.RowKit Go.Proofs.YthmjhhkheohgfaaW.PrintWords Go.Proofs.YthmjhhkheohgfaaW.PrintLast Go.Proofs.YthmjhhkheohgfaaW.PrintMore Go.Proofs.Ythmjhhkheohgfaa.Q

/-- may a byte stand in a text -/
def okB (b : Int) : Prop := 97 ≤ b ∧ b ≤ 122 ∨ 48 ≤ b ∧ b ≤ 57 ∨ b = 32
instance (b : Int) : Decidable (okB b) := by unfold okB; infer_instance
/-- are all bytes from i on right -/
def okFrom (s : ByteArray) : Nat → Nat → Bool
  | 0, _ => true
  | d + 1, i => decide (okB (bt s i)) && okFrom s d (i + 1)
/-- what wordsOk comes to -/
def words (s : ByteArray) : Bool := okFrom s s.size 0 && decide ((s.size : Int) ≤ 30)
theorem specText_l0 (s : ByteArray) (hs : s.size ≤ 9223372036854775807) : ∀ (d i : Nat), i + d = s.size → Ev (fun k => spec_l2Text.l0 k s (i : Int)) (okFrom s d i && decide ((s.size : Int) ≤ 30)) := by
  intro d
  induction d with
  | zero => intro i h; exact ev_step (fun _ => rfl) (ev_neg (by omega) (ev_now (by simp [okFrom])))
  | succ d ih =>
    intro i h
    have e : wrap64 ((i : Int) + 1) = ((i + 1 : Nat) : Int) := by rw [w64 (by omega) (by omega)]; omega
    have cont : okB (bt s i) → Ev (fun k => spec_l2Text.l0 k s (wrap64 ((i : Int) + 1))) (okFrom s (d + 1) i && decide ((s.size : Int) ≤ 30)) := fun q => by rw [e]; simpa [okFrom, q] using ih (i + 1) (by omega)
    have stop : ¬ okB (bt s i) → Ev (fun _ => some false) (okFrom s (d + 1) i && decide ((s.size : Int) ≤ 30)) := fun q => ev_now (by simp [okFrom, q])
    refine ev_step (fun _ => rfl) (ev_pos (by omega) (ev_pos (by omega) ?_))
    repeat' refine ev_ite (fun _ => ?_) (fun _ => ?_)
    all_goals first | (refine cont ?_; unfold okB; omega) | (refine stop ?_; unfold okB; omega)
theorem implText_l0 (s : ByteArray) (hs : s.size ≤ 9223372036854775807) : ∀ (d i : Nat), i + d = s.size → Ev (fun k => impl_wordsOk.l0 k s (i : Int)) (okFrom s d i && decide ((s.size : Int) ≤ 30)) := by
  intro d
  induction d with
  | zero => intro i h; exact ev_step (fun _ => rfl) (ev_neg (by omega) (ev_now (by simp [okFrom])))
  | succ d ih =>
    intro i h
    have e : wrap64 ((i : Int) + 1) = ((i + 1 : Nat) : Int) := by rw [w64 (by omega) (by omega)]; omega
    have cont : okB (bt s i) → Ev (fun k => impl_wordsOk.l0 k s (wrap64 ((i : Int) + 1))) (okFrom s (d + 1) i && decide ((s.size : Int) ≤ 30)) := fun q => by rw [e]; simpa [okFrom, q] using ih (i + 1) (by omega)
    have stop : ¬ okB (bt s i) → Ev (fun _ => some false) (okFrom s (d + 1) i && decide ((s.size : Int) ≤ 30)) := fun q => ev_now (by simp [okFrom, q])
    refine ev_step (fun _ => rfl) (ev_pos (by omega) (ev_pos (by omega) ?_))
    repeat' refine ev_ite (fun _ => ?_) (fun _ => ?_)
    all_goals first | (refine cont ?_; unfold okB; omega) | (refine stop ?_; unfold okB; omega)
theorem specWords (s : ByteArray) (hs : s.size ≤ 9223372036854775807) : Ev (fun k => spec_l2Text.f k s) (words s) := specText_l0 s hs s.size 0 (by omega)
theorem implWords (s : ByteArray) (hs : s.size ≤ 9223372036854775807) : Ev (fun k => impl_wordsOk.f k s) (words s) := implText_l0 s hs s.size 0 (by omega)
end Go.Proofs.Ythmjhhkheohgfaa.L

/- The plain side of RowOk: program and reference come to one answer. Condition: lists of at most 2^22 elements, texts as they are read. -/
namespace Go.Proofs.Ythmjhhkheohgfaa.L
open Go.RowKit Go.Proofs.YthmjhhkheohgfaaW.PrintWords Go.Proofs.YthmjhhkheohgfaaW.PrintLast Go.Proofs.YthmjhhkheohgfaaW.PrintMore Go.Proofs.Ythmjhhkheohgfaa.Q

/-- what is known of an item's texts -/
def okI (x : S_Item) : Prop := x.f1.size ≤ 9223372036854775807 ∧ x.f2.size ≤ 9223372036854775807
/-- is an item right by itself -/
def itemOk (x : S_Item) : Bool := words x.f1 && (words x.f2 && (inb x.f3 0 3 && inb x.f4 0 100000))
/-- is the item at i right in its row -/
def okAt (a b : Int) (l : List S_Item) (i : Nat) : Bool :=
  itemOk (rd_Item l (i : Int)) && (inb (rd_Item l (i : Int)).f0 a (wrap64 (b - 1)) && !(decide (0 < i) && decide ((rd_Item l ((i : Int) - 1)).f0 ≥ (rd_Item l (i : Int)).f0)))
def allAt (a b : Int) (l : List S_Item) : Nat → Nat → Bool
  | 0, _ => true
  | d + 1, i => okAt a b l i && allAt a b l d (i + 1)
/-- is a row right, its items left out -/
def rowHead (a b : Int) (l : List S_Item) : Bool := inb a 0 b && (decide (b ≤ 100000) && decide ((l.length : Int) ≤ 80))
def rowOk (a b : Int) (l : List S_Item) : Bool := allAt a b l l.length 0 && rowHead a b l
theorem specItemOk (x : S_Item) (hx : okI x) : Ev (fun k => spec_l3Item.f k x.f0 x.f1 x.f2 x.f3 x.f4) (itemOk x) :=
  ev_bind (specWords _ hx.1) (ev_and fun _ => ev_bind (specWords _ hx.2) (ev_and fun _ => ev_some (specIn _ _ _) (ev_and fun _ => ev_some (specIn _ _ _) (ev_now rfl))))
theorem specHead (a b : Int) (l : List S_Item) : Ev (fun k => spec_RowOk.j3 k a b l) (rowHead a b l) := by
  refine ev_step (fun _ => by rw [spec_RowOk.j3]) (ev_some (specIn _ _ _) (ev_and fun _ => ?_))
  by_cases h : b ≤ 100000
  · exact ev_pos h (ev_now (by simp [h]))
  · exact ev_neg h (ev_now (by simp [h]))
theorem specRow_l0 (a b : Int) (l : List S_Item) (hl : ∀ x ∈ l, okI x) (hn : l.length ≤ 4194304) : ∀ (d i : Nat), i + d = l.length → Ev (fun k => spec_RowOk.l0 k (i : Int) a b l) (allAt a b l d i && rowHead a b l) := by
  intro d
  induction d with
  | zero => intro i h; exact ev_step (fun _ => by rw [spec_RowOk.l0]) (ev_neg (by omega) (by simpa [allAt] using specHead a b l))
  | succ d ih =>
    intro i h
    have hm : okI (rd_Item l (i : Int)) := by rw [rdI l i (by omega)]; exact hl _ (List.getElem_mem _)
    have e : wrap64 ((i : Int) + 1) = ((i + 1 : Nat) : Int) := by rw [w64 (by omega) (by omega)]; omega
    have stop : ∀ c : Bool, c = true → okAt a b l i = false → Ev (fun k => spec_RowOk.j2 k (i : Int) c a b l) (allAt a b l (d + 1) i && rowHead a b l) := fun c hc q => ev_step (fun _ => by rw [spec_RowOk.j2]) (ev_pos hc (ev_now (by simp [allAt, q])))
    have cont : ∀ c : Bool, c = false → okAt a b l i = true → Ev (fun k => spec_RowOk.j2 k (i : Int) c a b l) (allAt a b l (d + 1) i && rowHead a b l) := fun c hc q => ev_step (fun _ => by rw [spec_RowOk.j2]) (ev_neg (by simp [hc]) (by rw [e]; simpa [allAt, q] using ih (i + 1) (by omega)))
    have hw : 0 < i → wrap64 ((i : Int) - 1) = (i : Int) - 1 := fun q => w64 (by omega) (by omega)
    refine ev_step (fun _ => by rw [spec_RowOk.l0]) (ev_pos (by omega) ?_)
    refine ev_step (fun _ => by rw [spec_RowOk.j1]) (ev_pos (by omega) (ev_pos (by omega) (ev_bind (specItemOk _ hm) ?_)))
    by_cases h1 : itemOk (rd_Item l (i : Int)) = true
    · refine ev_pos h1 (ev_some (specIn _ _ _) ?_)
      by_cases h2 : inb (rd_Item l (i : Int)).f0 a (wrap64 (b - 1)) = true
      · refine ev_pos h2 ?_
        by_cases h3 : 0 < i
        · refine ev_pos (by omega) ?_
          rw [hw h3]
          refine ev_pos (by omega) (ev_pos (by omega) ?_)
          by_cases h4 : (rd_Item l ((i : Int) - 1)).f0 ≥ (rd_Item l (i : Int)).f0
          · exact stop _ (by simpa using h4) (by simp [okAt, h3]; intro _ _; simpa using h4)
          · exact cont _ (by simpa using h4) (by simp [okAt, h1, h2]; exact Or.inr (by omega))
        · exact ev_neg (by omega) (cont _ rfl (by simp [okAt, h1, h2]; exact Or.inl (by omega)))
      · exact ev_neg h2 (stop _ rfl (by simp [okAt, h2]))
    · exact ev_neg h1 (stop _ rfl (by simp [okAt, h1]))
theorem specRowOk (a b : Int) (l : List S_Item) (hl : ∀ x ∈ l, okI x) (hn : l.length ≤ 4194304) : Ev (fun k => spec_RowOk.f k a b l) (rowOk a b l) := specRow_l0 a b l hl hn l.length 0 (by omega)
theorem implRow_l0 (a b : Int) (l : List S_Item) (hl : ∀ x ∈ l, okI x) (hn : l.length ≤ 4194304) : ∀ (d i : Nat), i + d = l.length → Ev (fun k => impl_RowOk.l0 k l (l.length : Int) (i : Int) a b l) (allAt a b l d i) := by
  intro d
  induction d with
  | zero =>
    intro i h
    refine ev_step (fun _ => by rw [impl_RowOk.l0]) ?_
    exact ev_neg (by omega) (ev_now rfl)
  | succ d ih =>
    intro i h
    have hm : okI (rd_Item l (i : Int)) := by rw [rdI l i (by omega)]; exact hl _ (List.getElem_mem _)
    have e : wrap64 ((i : Int) + 1) = ((i + 1 : Nat) : Int) := by rw [w64 (by omega) (by omega)]; omega
    have stop : ∀ c : Bool, c = true → okAt a b l i = false → Ev (fun k => impl_RowOk.j4 k l (l.length : Int) (i : Int) c a b l) (allAt a b l (d + 1) i) := fun c hc q => ev_step (fun _ => by rw [impl_RowOk.j4]) (ev_pos hc (ev_now (by simp [allAt, q])))
    have cont : ∀ c : Bool, c = false → okAt a b l i = true → Ev (fun k => impl_RowOk.j4 k l (l.length : Int) (i : Int) c a b l) (allAt a b l (d + 1) i) := fun c hc q => ev_step (fun _ => by rw [impl_RowOk.j4]) (ev_neg (by simp [hc]) (by rw [e]; simpa [allAt, q] using ih (i + 1) (by omega)))
    have hw : 0 < i → wrap64 ((i : Int) - 1) = (i : Int) - 1 := fun q => w64 (by omega) (by omega)
    refine ev_step (fun _ => by rw [impl_RowOk.l0]) (ev_pos (by omega) ?_)
    refine ev_step (fun _ => by rw [impl_RowOk.j3]) (ev_pos (by omega) (ev_pos (by omega) (ev_some (implIn _ _ _) ?_)))
    have hpre : inb (rd_Item l (i : Int)).f0 a (wrap64 (b - 1)) = true → (0 < i → ¬ (rd_Item l ((i : Int) - 1)).f0 ≥ (rd_Item l (i : Int)).f0) → okAt a b l i = itemOk (rd_Item l (i : Int)) := fun h2 h3 => by
      have : (!(decide (0 < i) && decide ((rd_Item l ((i : Int) - 1)).f0 ≥ (rd_Item l (i : Int)).f0))) = true := by
        by_cases q : 0 < i
        · simp [q]; simpa using h3 q
        · simp [q]
      rw [okAt, h2, this]
      simp
    by_cases h2 : inb (rd_Item l (i : Int)).f0 a (wrap64 (b - 1)) = true
    · refine ev_pos h2 ?_
      have body : okAt a b l i = itemOk (rd_Item l (i : Int)) → Ev (fun k => (impl_wordsOk.f k ((rd_Item l (i : Int)).f1)).bind fun t1 => if t1 = true then ((impl_wordsOk.f k ((rd_Item l (i : Int)).f2)).bind fun t2 => if t2 = true then ((impl_within.f ((rd_Item l (i : Int)).f3) 0 3).bind fun t3 => if t3 = true then ((impl_within.f ((rd_Item l (i : Int)).f4) 0 100000).bind fun t4 => impl_RowOk.j4 k l (l.length : Int) (i : Int) (!t4) a b l) else impl_RowOk.j4 k l (l.length : Int) (i : Int) true a b l) else impl_RowOk.j4 k l (l.length : Int) (i : Int) true a b l) else impl_RowOk.j4 k l (l.length : Int) (i : Int) true a b l) (allAt a b l (d + 1) i) := fun hq => by
        refine ev_bind (implWords _ hm.1) ?_
        by_cases k1 : words (rd_Item l (i : Int)).f1 = true
        · refine ev_pos k1 (ev_bind (implWords _ hm.2) ?_)
          by_cases k2 : words (rd_Item l (i : Int)).f2 = true
          · refine ev_pos k2 (ev_some (implIn _ _ _) ?_)
            by_cases k3 : inb (rd_Item l (i : Int)).f3 0 3 = true
            · refine ev_pos k3 (ev_some (implIn _ _ _) ?_)
              by_cases k4 : inb (rd_Item l (i : Int)).f4 0 100000 = true
              · exact cont _ (by simp [k4]) (by rw [hq]; simp [itemOk, k1, k2, k3, k4])
              · exact stop _ (by simp [k4]) (by rw [hq]; simp [itemOk, k4])
            · exact ev_neg k3 (stop _ rfl (by rw [hq]; simp [itemOk, k3]))
          · exact ev_neg k2 (stop _ rfl (by rw [hq]; simp [itemOk, k2]))
        · exact ev_neg k1 (stop _ rfl (by rw [hq]; simp [itemOk, k1]))
      by_cases h3 : 0 < i
      · refine ev_pos (by omega) ?_
        rw [hw h3]
        refine ev_pos (by omega) (ev_pos (by omega) ?_)
        by_cases h4 : (rd_Item l ((i : Int) - 1)).f0 ≥ (rd_Item l (i : Int)).f0
        · exact ev_pos h4 (stop _ rfl (by simp [okAt, h3]; intro _ _; simpa using h4))
        · exact ev_neg h4 (body (hpre h2 fun _ => h4))
      · exact ev_neg (by omega) (body (hpre h2 fun q => absurd q h3))
    · exact ev_neg h2 (stop _ rfl (by simp [okAt, h2]))
theorem implRowOk (a b : Int) (l : List S_Item) (hl : ∀ x ∈ l, okI x) (hn : l.length ≤ 4194304) : Ev (fun k => impl_RowOk.f k a b l) (rowOk a b l) := by
  have go : ∀ c : Bool, Ev (fun k => impl_RowOk.j0 k c a b l) (!c && allAt a b l l.length 0) := fun c => by
    refine ev_step (fun _ => by rw [impl_RowOk.j0]) ?_
    cases c with
    | true => exact ev_pos rfl (ev_now rfl)
    | false =>
      refine ev_neg (by simp) (ev_step (fun _ => by rw [impl_RowOk.j1]) ?_)
      simpa using implRow_l0 a b l hl hn l.length 0 (by omega)
  refine ev_some (implIn _ _ _) ?_
  by_cases h1 : inb a 0 b = true
  · refine ev_pos h1 ?_
    by_cases h2 : b > 100000
    · exact ev_pos h2 (ev_eq (by simp [rowOk, rowHead, show ¬ b ≤ 100000 by omega]) (go true))
    · refine ev_neg h2 (ev_eq ?_ (go _))
      by_cases h3 : (l.length : Int) > 80
      · simp [rowOk, rowHead, show ¬ ((l.length : Int) ≤ 80) by omega, show (80 : Int) < (l.length : Int) by omega]
      · simp [rowOk, rowHead, h1, show b ≤ 100000 by omega, show (l.length : Int) ≤ 80 by omega, show ¬ ((80 : Int) < (l.length : Int)) by omega]
  · exact ev_neg h1 (ev_eq (by simp [rowOk, rowHead, h1]) (go true))
end Go.Proofs.Ythmjhhkheohgfaa.L

/- Copies of rows: program and reference come to the row itself. Condition: lists of at most 2^20 + 1 elements. -/
namespace Go.Proofs.Ythmjhhkheohgfaa.L
open Go.RowKit Go.Proofs.YthmjhhkheohgfaaW.PrintWords Go.Proofs.YthmjhhkheohgfaaW.PrintLast Go.Proofs.YthmjhhkheohgfaaW.PrintMore Go.Proofs.Ythmjhhkheohgfaa.Q

theorem specCopyRow (a b : Int) (l : List S_Item) (hn : l.length ≤ 1048577) : spec_l3Copy.f a b l = some (a, b, l) := by
  unfold spec_l3Copy.f
  simp only [Option.bind_some, List.length_nil, List.nil_append]
  rw [if_pos (by omega)]
theorem implCopyRow (a b : Int) (l : List S_Item) (hn : l.length ≤ 1048577) : impl_copyRow.f a b l = some (a, b, l) := by
  unfold impl_copyRow.f
  simp only [List.length_nil, List.nil_append]
  rw [if_pos (by omega)]
end Go.Proofs.Ythmjhhkheohgfaa.L

/- The plain side of Latest: program and reference come to one answer, the last item of a key. Condition: lists of at most 2^20 elements. -/
namespace Go.Proofs.Ythmjhhkheohgfaa.L
open Go.RowKit Go.Proofs.YthmjhhkheohgfaaW.PrintWords Go.Proofs.YthmjhhkheohgfaaW.PrintLast Go.Proofs.YthmjhhkheohgfaaW.PrintMore Go.Proofs.Ythmjhhkheohgfaa.Q

end Go.Proofs.Ythmjhhkheohgfaa.L

/- The plain side of RowPack: program and reference come to one answer. Condition: lists of at most 2^20 elements, texts as they are read. -/
namespace Go.Proofs.Ythmjhhkheohgfaa.L
open Go.RowKit Go.Proofs.YthmjhhkheohgfaaW.PrintWords Go.Proofs.YthmjhhkheohgfaaW.PrintLast Go.Proofs.YthmjhhkheohgfaaW.PrintMore Go.Proofs.Ythmjhhkheohgfaa.Q

end Go.Proofs.Ythmjhhkheohgfaa.L

/- Rows that are right, said of all their items, and what packing keeps of them. No program in sight but the plain words for it. -/
namespace Go.Proofs.Ythmjhhkheohgfaa.L
open Go.RowKit Go.Proofs.YthmjhhkheohgfaaW.PrintWords Go.Proofs.YthmjhhkheohgfaaW.PrintLast Go.Proofs.YthmjhhkheohgfaaW.PrintMore Go.Proofs.Ythmjhhkheohgfaa.Q

/-- a right row, said of all its items -/
structure Right (a b : Int) (l : List S_Item) : Prop where
  lo : 0 ≤ a
  hi : a ≤ b
  top : b ≤ 100000
  len : l.length ≤ 80
  each : ∀ x ∈ l, itemOk x = true ∧ a ≤ x.f0 ∧ x.f0 < b
  up : l.Pairwise fun x y => x.f0 < y.f0
theorem allAt_all (a b : Int) (l : List S_Item) : ∀ (d i : Nat), allAt a b l d i = true ↔ ∀ j, i ≤ j → j < i + d → okAt a b l j = true := by
  intro d
  induction d with
  | zero => intro i; simp only [allAt, true_iff]; omega
  | succ d ih =>
    intro i
    unfold allAt
    rw [Bool.and_eq_true, ih (i + 1)]
    constructor
    · intro h j h1 h2
      by_cases q : j = i
      · rw [q]; exact h.1
      · exact h.2 j (by omega) (by omega)
    · intro h
      exact ⟨h i (Nat.le_refl _) (by omega), fun j h1 h2 => h j (by omega) (by omega)⟩
theorem rowHead_iff (a b : Int) (l : List S_Item) : rowHead a b l = true ↔ 0 ≤ a ∧ a ≤ b ∧ b ≤ 100000 ∧ l.length ≤ 80 := by
  unfold rowHead
  rw [Bool.and_eq_true, Bool.and_eq_true, inb_true, decide_eq_true_eq, decide_eq_true_eq]
  omega
theorem right_of {a b : Int} {l : List S_Item} (h : rowOk a b l = true) : Right a b l := by
  unfold rowOk at h
  rw [Bool.and_eq_true, rowHead_iff, allAt_all] at h
  obtain ⟨h, h0, h1, h2, h3⟩ := h
  have e : wrap64 (b - 1) = b - 1 := w64 (by omega) (by omega)
  have ok : ∀ j (hj : j < l.length), itemOk l[j] = true ∧ a ≤ l[j].f0 ∧ l[j].f0 < b ∧ (∀ (q : 0 < j), (l[j - 1]'(by omega)).f0 < l[j].f0) := by
    intro j hj
    have := h j (Nat.zero_le _) (by omega)
    unfold okAt at this
    rw [Bool.and_eq_true, Bool.and_eq_true, rdI l j hj, inb_true, e] at this
    obtain ⟨t1, t2, t3⟩ := this
    refine ⟨t1, t2.1, by omega, fun q => ?_⟩
    have e1 : ((j : Int) - 1) = ((j - 1 : Nat) : Int) := by omega
    rw [e1, rdI l (j - 1) (by omega)] at t3
    simp only [q, decide_true, Bool.true_and, Bool.not_eq_true', decide_eq_false_iff_not] at t3
    omega
  refine ⟨h0, h1, h2, h3, ?_, ?_⟩
  · intro x hx
    obtain ⟨j, hj, rfl⟩ := List.mem_iff_getElem.1 hx
    exact ⟨(ok j hj).1, (ok j hj).2.1, (ok j hj).2.2.1⟩
  · rw [List.pairwise_iff_getElem]
    have all : ∀ (d i : Nat) (q : i + d + 1 < l.length), (l[i]'(by omega)).f0 < (l[i + d + 1]'q).f0 := by
      intro d
      induction d with
      | zero => intro i q; exact (ok (i + 1) q).2.2.2 (by omega)
      | succ d ih =>
        intro i q
        have q1 := ih i (by omega)
        have q2 := (ok (i + (d + 1) + 1) q).2.2.2 (by omega)
        have q3 : i + (d + 1) + 1 - 1 = i + d + 1 := by omega
        simp only [q3] at q2
        omega
    intro i j hi hj hij
    obtain ⟨d, rfl⟩ : ∃ d, j = i + d + 1 := ⟨j - i - 1, by omega⟩
    exact all d i hj
theorem right_sub {a b : Int} {l m : List S_Item} (h : Right a b l) (s : m.Sublist l) : Right a b m :=
  ⟨h.lo, h.hi, h.top, Nat.le_trans s.length_le h.len, fun x hx => h.each x (s.subset hx), h.up.sublist s⟩

end Go.Proofs.Ythmjhhkheohgfaa.L

/- What trimming leaves of a row; the reference comes to it. Condition: lists of at most 2^20 elements, texts as they are read. -/
namespace Go.Proofs.Ythmjhhkheohgfaa.L
open Go.RowKit Go.Proofs.YthmjhhkheohgfaaW.PrintWords Go.Proofs.YthmjhhkheohgfaaW.PrintLast Go.Proofs.YthmjhhkheohgfaaW.PrintMore Go.Proofs.Ythmjhhkheohgfaa.Q

/-- the block of a number -/
def blk (n x : Int) : Int := wrap64 (Int.tdiv x n)
/-- what stands behind a block at a list's front -/
def behind1 (n f : Int) (l : List S_Item) : List S_Item := l.dropWhile fun y => decide (blk n y.f0 = f)
def trim (n b keep : Int) : Nat → Int → List S_Item → Int × List S_Item
  | 0, a, l => (a, l)
  | _ + 1, a, [] => (a, [])
  | d + 1, a, x :: t => if ((x :: t).length : Int) > keep ∧ ¬ blk n x.f0 = blk n (wrap64 (b - 1)) then trim n b keep d (wrap64 (wrap64 (blk n x.f0 + 1) * n)) (behind1 n (blk n x.f0) (x :: t)) else (a, x :: t)
/-- what RowTrim comes to -/
def rowTrim (a b : Int) (l : List S_Item) (n keep : Int) : Int × Int × List S_Item :=
  if 1 ≤ n ∧ 0 ≤ keep ∧ rowOk a b l = true then ((trim n b keep l.length a l).1, b, (trim n b keep l.length a l).2) else (a, b, l)
theorem behind1_pos {n f : Int} {x : S_Item} (t : List S_Item) (c : blk n x.f0 = f) : behind1 n f (x :: t) = behind1 n f t := List.dropWhile_cons_of_pos (by simpa using c)
theorem behind1_neg {n f : Int} {x : S_Item} (t : List S_Item) (c : ¬ blk n x.f0 = f) : behind1 n f (x :: t) = x :: t := List.dropWhile_cons_of_neg (by simpa using c)
theorem behind1_cons (n : Int) (x : S_Item) (t : List S_Item) : behind1 n (blk n x.f0) (x :: t) = behind1 n (blk n x.f0) t := behind1_pos t rfl
theorem behind1_len (n f : Int) (l : List S_Item) : (behind1 n f l).length ≤ l.length := (List.dropWhile_sublist _).length_le
theorem specTrim_l1 (n keep a0 b : Int) (l0 : List S_Item) (hn : n ≠ 0) (f a : Int) (l : List S_Item) (hl : l.length ≤ 1048576) (r : Int × Int × List S_Item) : ∀ (d i : Nat), i + d = l.length →
    Ev (fun k => spec_RowTrim.l0 k n keep a0 b l0 (wrap64 (wrap64 (f + 1) * n)) b (behind1 n f (l.drop i))) r → Ev (fun k => spec_RowTrim.l1 k n keep f (i : Int) a0 b l0 a b l) r := by
  intro d
  induction d with
  | zero =>
    intro i h q
    have e : l.drop i = [] := List.drop_eq_nil_of_le (by omega)
    rw [e] at q
    refine ev_step (fun _ => by rw [spec_RowTrim.l1]) ?_
    refine ev_neg (by omega) (ev_some rfl (ev_pos (by omega) (ev_pos (by omega) (ev_some rfl ?_))))
    rw [Int.toNat_natCast, e]
    exact ev_pos (by simp) q
  | succ d ih =>
    intro i h q
    have e : wrap64 ((i : Int) + 1) = ((i + 1 : Nat) : Int) := by rw [w64 (by omega) (by omega)]; omega
    have hd : l.drop i = l[i] :: l.drop (i + 1) := List.drop_eq_getElem_cons (by omega)
    refine ev_step (fun _ => by rw [spec_RowTrim.l1]) ?_
    refine ev_pos (by omega) (ev_pos (by omega) (ev_neg hn ?_))
    rw [rdI l i (by omega)]
    by_cases c : wrap64 (Int.tdiv l[i].f0 n) = f
    · refine ev_pos c ?_
      rw [e]
      refine ih (i + 1) (by omega) ?_
      have : behind1 n f (l.drop i) = behind1 n f (l.drop (i + 1)) := by
        rw [hd]
        exact behind1_pos _ c
      rw [← this]
      exact q
    · refine ev_neg c (ev_some rfl (ev_pos (by omega) (ev_some rfl ?_)))
      have : behind1 n f (l.drop i) = l.drop i := by
        rw [hd]
        exact behind1_neg _ c
      rw [this] at q
      rw [Int.toNat_natCast, List.nil_append]
      exact ev_pos (by simp; omega) q
theorem specTrim_l0 (n keep a0 b : Int) (l0 : List S_Item) (hn : n ≠ 0) (hk : 0 ≤ keep) : ∀ (d : Nat) (a : Int) (l : List S_Item), l.length ≤ d → l.length ≤ 1048576 →
    Ev (fun k => spec_RowTrim.l0 k n keep a0 b l0 a b l) ((trim n b keep d a l).1, b, (trim n b keep d a l).2) := by
  intro d
  induction d with
  | zero =>
    intro a l h q
    refine ev_step (fun _ => by rw [spec_RowTrim.l0]) ?_
    exact ev_neg (by omega) (ev_now rfl)
  | succ d ih =>
    intro a l h q
    refine ev_step (fun _ => by rw [spec_RowTrim.l0]) ?_
    cases l with
    | nil => exact ev_neg (by simp; omega) (ev_now rfl)
    | cons x t =>
      have ht : ((x :: t).length : Int) = (t.length : Int) + 1 := by simp
      have er : rd_Item (x :: t) 0 = x := rfl
      by_cases c : ((x :: t).length : Int) > keep
      · refine ev_pos c (ev_pos (by omega) (ev_neg hn ?_))
        rw [er]
        by_cases c2 : wrap64 (Int.tdiv x.f0 n) = wrap64 (Int.tdiv (wrap64 (b - 1)) n)
        · refine ev_pos c2 (ev_now ?_)
          rw [trim, if_neg (by intro w; exact w.2 c2)]
        · refine ev_neg c2 ?_
          refine specTrim_l1 n keep a0 b l0 hn _ a (x :: t) q _ (x :: t).length 0 (by omega) ?_
          rw [List.drop_zero, trim, if_pos ⟨c, c2⟩]
          have hb : (behind1 n (blk n x.f0) (x :: t)).length ≤ d := by
            rw [behind1_cons]
            have := behind1_len n (blk n x.f0) t
            simp only [List.length_cons] at h
            omega
          have hq : (behind1 n (blk n x.f0) (x :: t)).length ≤ 1048576 := Nat.le_trans (behind1_len _ _ _) q
          exact ih _ _ hb hq
      · refine ev_neg c (ev_now ?_)
        rw [trim, if_neg (fun w => c w.1)]
theorem specRowTrim (a b : Int) (l : List S_Item) (n keep : Int) (hl : ∀ x ∈ l, okI x) (hn : l.length ≤ 1048576) : Ev (fun k => spec_RowTrim.f k a b l n keep) (rowTrim a b l n keep) := by
  have fin : rowTrim a b l n keep = (a, b, l) → Ev (fun k => spec_RowTrim.j0 k n keep true a b l a b l) (rowTrim a b l n keep) := fun e => by
    rw [e]
    exact ev_step (fun _ => by rw [spec_RowTrim.j0]) (ev_pos rfl (ev_now rfl))
  refine ev_some (specCopyRow a b l (by omega)) ?_
  by_cases c1 : n < 1
  · exact ev_pos c1 (fin (by unfold rowTrim; rw [if_neg (by omega)]))
  · by_cases c2 : keep < 0
    · exact ev_neg c1 (ev_pos c2 (fin (by unfold rowTrim; rw [if_neg (by omega)])))
    · refine ev_neg c1 (ev_neg c2 (ev_bind (specRowOk a b l hl (by omega)) ?_))
      cases c3 : rowOk a b l with
      | false => exact fin (by unfold rowTrim; rw [c3, if_neg (by simp)])
      | true =>
        refine ev_step (fun _ => by rw [spec_RowTrim.j0]) (ev_neg (by simp) ?_)
        unfold rowTrim
        rw [if_pos ⟨by omega, by omega, c3⟩]
        exact specTrim_l0 n keep a b l (by omega) (by omega) l.length a l (Nat.le_refl _) hn
theorem blk_eq {n x : Int} (hn : 1 ≤ n) (h0 : 0 ≤ x) (h1 : x ≤ 100000) : blk n x = x / n ∧ 0 ≤ x / n ∧ x / n ≤ 100000 := by
  have q0 : 0 ≤ x / n := Int.ediv_nonneg h0 (by omega)
  have q1 : x / n ≤ x := Int.ediv_le_self _ h0
  refine ⟨?_, q0, by omega⟩
  unfold blk
  rw [Int.tdiv_eq_ediv_of_nonneg h0]
  exact w64 (by omega) (by omega)
theorem blk_mono {n x y : Int} (hn : 1 ≤ n) (h0 : 0 ≤ x) (h : x ≤ y) (h1 : y ≤ 100000) : blk n x ≤ blk n y := by
  rw [(blk_eq hn h0 (by omega)).1, (blk_eq hn (by omega) h1).1]
  exact Int.ediv_le_ediv (by omega) h
theorem behind1_filter (n f : Int) (hn : 1 ≤ n) : ∀ l : List S_Item, (∀ x ∈ l, 0 ≤ x.f0 ∧ x.f0 ≤ 100000 ∧ f ≤ blk n x.f0) → (l.Pairwise fun x y => x.f0 < y.f0) → (∀ y ∈ behind1 n f l, f < blk n y.f0) ∧ behind1 n f l = l.filter (fun y => !decide (blk n y.f0 = f)) := by
  intro l
  induction l with
  | nil => intro _ _; exact ⟨fun y hy => absurd hy (List.not_mem_nil), rfl⟩
  | cons x t ih =>
    intro h p
    rw [List.pairwise_cons] at p
    have hx := h x (List.mem_cons_self ..)
    have ht : ∀ y ∈ t, 0 ≤ y.f0 ∧ y.f0 ≤ 100000 ∧ f ≤ blk n y.f0 := fun y hy => h y (List.mem_cons_of_mem _ hy)
    by_cases c : blk n x.f0 = f
    · have e : behind1 n f (x :: t) = behind1 n f t := behind1_pos t c
      rw [e, List.filter_cons_of_neg (by simp [c])]
      exact ih ht p.2
    · have e : behind1 n f (x :: t) = x :: t := behind1_neg t c
      have all : ∀ y ∈ x :: t, f < blk n y.f0 := by
        intro y hy
        rcases List.mem_cons.1 hy with rfl | hy
        · omega
        · have := blk_mono hn hx.1 (Int.le_of_lt (p.1 y hy)) (ht y hy).2.1
          omega
      rw [e]
      refine ⟨all, ?_⟩
      symm
      rw [List.filter_eq_self]
      intro y hy
      have := all y hy
      have : ¬ blk n y.f0 = f := by omega
      simp [this]
theorem next_block {n b x : Int} (hn : 1 ≤ n) (h0 : 0 ≤ x) (h1 : x < b) (hb : b ≤ 100000) (c : ¬ blk n x = blk n (wrap64 (b - 1))) :
    wrap64 (wrap64 (blk n x + 1) * n) = (x / n + 1) * n ∧ 0 ≤ (x / n + 1) * n ∧ (x / n + 1) * n ≤ b := by
  rw [w64 (by omega) (by omega)] at c
  have e1 := blk_eq hn h0 (by omega)
  have e2 := blk_eq (x := b - 1) hn (by omega) (by omega)
  rw [e1.1, e2.1] at c
  have m : x / n ≤ (b - 1) / n := Int.ediv_le_ediv (by omega) (by omega)
  have u : (x / n + 1) * n ≤ (b - 1) / n * n := Int.mul_le_mul_of_nonneg_right (by omega) (by omega)
  have v : (b - 1) / n * n ≤ b - 1 := Int.ediv_mul_le _ (by omega)
  have z : 0 ≤ (x / n + 1) * n := Int.mul_nonneg (by omega) (by omega)
  rw [e1.1, w64 (x := x / n + 1) (by omega) (by omega), w64 (by omega) (by omega)]
  exact ⟨rfl, z, by omega⟩
theorem right_behind {n a b : Int} {x : S_Item} {t : List S_Item} (hn : 1 ≤ n) (h : Right a b (x :: t)) (c : ¬ blk n x.f0 = blk n (wrap64 (b - 1))) : Right (wrap64 (wrap64 (blk n x.f0 + 1) * n)) b (behind1 n (blk n x.f0) (x :: t)) := by
  have hx := h.each x (List.mem_cons_self ..)
  have h0 := h.lo
  have h2 := h.top
  obtain ⟨e, z, u⟩ := next_block hn (by omega) hx.2.2 h2 c
  have s : (behind1 n (blk n x.f0) (x :: t)).Sublist (x :: t) := List.dropWhile_sublist _
  have r := right_sub h s
  have up := h.up
  rw [List.pairwise_cons] at up
  have f := (behind1_filter n (blk n x.f0) hn (x :: t) (fun y hy => by
    have q := h.each y hy
    refine ⟨by omega, by omega, ?_⟩
    rcases List.mem_cons.1 hy with rfl | hy
    · exact Int.le_refl _
    · exact blk_mono hn (by omega) (Int.le_of_lt (up.1 y hy)) (by omega)) h.up).1
  rw [e]
  refine ⟨z, u, h2, r.len, fun y hy => ?_, r.up⟩
  have q := r.each y hy
  refine ⟨q.1, ?_, q.2.2⟩
  have q2 := f y hy
  rw [(blk_eq hn (by omega) (by omega)).1, (blk_eq (x := y.f0) hn (by omega) (by omega)).1] at q2
  have w : (x.f0 / n + 1) * n ≤ y.f0 / n * n := Int.mul_le_mul_of_nonneg_right (by omega) (by omega)
  have v : y.f0 / n * n ≤ y.f0 := Int.ediv_mul_le _ (by omega)
  omega
theorem right_trim_l (n b keep : Int) (hn : 1 ≤ n) : ∀ (d : Nat) (a : Int) (l : List S_Item), Right a b l → Right (trim n b keep d a l).1 b (trim n b keep d a l).2 ∧ (trim n b keep d a l).2.length ≤ l.length := by
  intro d
  induction d with
  | zero => intro a l h; exact ⟨h, Nat.le_refl _⟩
  | succ d ih =>
    intro a l h
    cases l with
    | nil => exact ⟨h, Nat.le_refl _⟩
    | cons x t =>
      rw [trim]
      split
      · rename_i c
        have := ih _ _ (right_behind hn h c.2)
        exact ⟨this.1, Nat.le_trans this.2 (behind1_len _ _ _)⟩
      · exact ⟨h, Nat.le_refl _⟩
end Go.Proofs.Ythmjhhkheohgfaa.L

/- The program's RowTrim comes to what trimming leaves. Condition: lists of at most 2^20 elements, texts as they are read. -/
namespace Go.Proofs.Ythmjhhkheohgfaa.L
open Go.RowKit Go.Proofs.YthmjhhkheohgfaaW.PrintWords Go.Proofs.YthmjhhkheohgfaaW.PrintLast Go.Proofs.YthmjhhkheohgfaaW.PrintMore Go.Proofs.Ythmjhhkheohgfaa.Q

theorem kept_behind (n b : Int) (a : Int) (x : S_Item) (t : List S_Item) (hn : 1 ≤ n) (h : Right a b (x :: t)) : kept n (blk n x.f0) (x :: t) = behind1 n (blk n x.f0) (x :: t) := by
  have h0 := h.lo
  have h2 := h.top
  have up := h.up
  rw [List.pairwise_cons] at up
  have hx := h.each x (List.mem_cons_self ..)
  rw [(behind1_filter n (blk n x.f0) hn (x :: t) (fun y hy => by
    have q := h.each y hy
    refine ⟨by omega, by omega, ?_⟩
    rcases List.mem_cons.1 hy with rfl | hy
    · exact Int.le_refl _
    · exact blk_mono hn (by omega) (Int.le_of_lt (up.1 y hy)) (by omega)) h.up).2]
  unfold kept
  congr 1
theorem implTrim_l0 (n keep b : Int) (hn : 1 ≤ n) (hk : 0 ≤ keep) : ∀ (d : Nat) (a : Int) (l : List S_Item), l.length ≤ d → Right a b l →
    Ev (fun k => impl_RowTrim.l0 n keep b k a l) ((trim n b keep d a l).1, b, (trim n b keep d a l).2) := by
  intro d
  induction d with
  | zero =>
    intro a l h _
    refine ev_step (fun _ => by rw [impl_RowTrim.l0]) ?_
    exact ev_neg (by omega) (ev_now rfl)
  | succ d ih =>
    intro a l h q
    refine ev_step (fun _ => by rw [impl_RowTrim.l0]) ?_
    cases l with
    | nil => exact ev_neg (by simp; omega) (ev_now rfl)
    | cons x t =>
      have er : rd_Item (x :: t) 0 = x := rfl
      rw [er]
      by_cases c : ((x :: t).length : Int) > keep
      · refine ev_pos c ?_
        by_cases c2 : wrap64 (Int.tdiv x.f0 n) = wrap64 (Int.tdiv (wrap64 (b - 1)) n)
        · refine ev_pos c2 (ev_now ?_)
          rw [trim, if_neg (by intro w; exact w.2 c2)]
        · refine ev_neg c2 ?_
          have e := kept_behind n b a x t hn q
          have r := right_behind hn q c2
          have hb : (behind1 n (blk n x.f0) (x :: t)).length ≤ d := by
            rw [behind1_cons]
            have := behind1_len n (blk n x.f0) t
            simp only [List.length_cons] at h
            omega
          show Ev (fun k => impl_RowTrim.l0 n keep b k (wrap64 (wrap64 (blk n x.f0 + 1) * n)) (kept n (blk n x.f0) (x :: t))) _
          rw [e, trim, if_pos ⟨c, c2⟩]
          exact ih _ _ hb r
      · refine ev_neg c (ev_now ?_)
        rw [trim, if_neg (fun w => c w.1)]
theorem implRowTrim (a b : Int) (l : List S_Item) (n keep : Int) (hl : ∀ x ∈ l, okI x) (hn : l.length ≤ 1048576) : Ev (fun k => impl_RowTrim.f k a b l n keep) (rowTrim a b l n keep) := by
  have fin : ∀ v : Int × Int × List S_Item, v = (a, b, l) → ¬ (1 ≤ n ∧ 0 ≤ keep ∧ rowOk a b l = true) → Ev (fun _ => some v) (rowTrim a b l n keep) := fun v hv h => by
    rw [hv]
    exact ev_now (by unfold rowTrim; rw [if_neg h])
  refine ev_some (implCopyRow a b l (by omega)) ?_
  by_cases c1 : n < 1
  · exact ev_pos c1 (fin _ rfl (by omega))
  · by_cases c2 : keep < 0
    · exact ev_neg c1 (ev_pos c2 (fin _ rfl (by omega)))
    · refine ev_neg c1 (ev_neg c2 (ev_bind (implRowOk a b l hl (by omega)) ?_))
      cases c3 : rowOk a b l with
      | false => exact ev_neg (by simp) (fin _ rfl (by rw [c3]; simp))
      | true =>
        refine ev_pos rfl ?_
        unfold rowTrim
        rw [if_pos ⟨by omega, by omega, c3⟩]
        exact implTrim_l0 n keep b (by omega) (by omega) l.length a l (Nat.le_refl _) (right_of c3)
theorem rowTrim_len (a b : Int) (l : List S_Item) (n keep : Int) : (rowTrim a b l n keep).2.2.length ≤ l.length := by
  unfold rowTrim
  split
  · rename_i c
    exact (right_trim_l n b keep c.1 l.length a l (right_of c.2.2)).2
  · exact Nat.le_refl _
end Go.Proofs.Ythmjhhkheohgfaa.L

/- FnExactRowTrim as a plain statement: proved for all arguments. -/
namespace Go.Proofs.Ythmjhhkheohgfaa.Pure
open Go.RowKit Go.Proofs.YthmjhhkheohgfaaW.PrintWords Go.Proofs.YthmjhhkheohgfaaW.PrintLast Go.Proofs.YthmjhhkheohgfaaW.PrintMore Go.Proofs.Ythmjhhkheohgfaa.Q Go.Proofs.Ythmjhhkheohgfaa.L Go.Proofs.Ythmjhhkheohgfaa.R

theorem okI_items2 (l : List S_LItem) (hl : ∀ y ∈ l, WF_LItem y) : ∀ x ∈ items l, okI x := by
  intro x hx
  obtain ⟨y, hy, rfl⟩ := List.mem_map.1 hx
  have := hl y hy
  have h1 := this.2.1
  have h2 := this.2.2.1
  unfold maxLen at h1 h2
  exact ⟨by show y.f1.size ≤ _; omega, by show y.f2.size ≤ _; omega⟩
theorem FnExactRowTrim (a b : Int) (l : List S_LItem) (n keep : Int) (_ : (Lit.int .i64 a).wf = true) (_ : (Lit.int .i64 b).wf = true) (hl : l.length ≤ maxLen ∧ ∀ y ∈ l, WF_LItem y) (_ : (Lit.int .i64 n).wf = true) (_ : (Lit.int .i64 keep).wf = true) : ∃ k, laws_FnExactRowTrim.f k a b l n keep = some true := by
  refine Ev.rounds (g := fun k => laws_FnExactRowTrim.f k a b l n keep) ?_
  obtain ⟨r, hr, hs⟩ := szRow a b l hl.1 (fun x hx => ⟨(hl.2 x hx).2.1, (hl.2 x hx).2.2.1⟩)
  refine ev_bind hr (ev_ite (fun _ => ev_now rfl) (fun h => ?_))
  have hn := hs (by omega)
  have hi : (items l).length ≤ 1048576 := by rw [items_len]; exact hn
  have ho := okI_items2 l hl.2
  have e1 := specRowTrim a b (items l) n keep ho hi
  have e2 := implRowTrim a b (items l) n keep ho hi
  have hlen := rowTrim_len a b (items l) n keep
  generalize rowTrim a b (items l) n keep = v at e1 e2 hlen
  obtain ⟨va, vb, vl⟩ := v
  have hv : vl.length ≤ 1048577 := by have : vl.length ≤ (items l).length := hlen; omega
  refine ev_step (fun _ => by rw [laws_FnExactRowTrim.j0]) ?_
  refine ev_bind (toRow a b l hn) (ev_bind e1 (ev_bind (toRow a b l hn) (ev_bind e2 (ev_bind (eqRow va vb vl (by omega)) (ev_pos rfl ?_)))))
  refine ev_step (fun _ => by rw [laws_FnExactRowTrim.j1]) ?_
  refine ev_bind (toRow a b l hn) (ev_bind (eqRow a b (items l) (by omega)) (ev_pos rfl ?_))
  refine ev_step (fun _ => by rw [laws_FnExactRowTrim.j2]) ?_
  refine ev_bind (markRow a b (items l) (by omega)) (ev_neg (by omega) (ev_bind (eqRow va vb vl (by omega)) ?_))
  refine ev_step (fun _ => by rw [laws_FnExactRowTrim.j3]) ?_
  refine ev_neg (by simp) (ev_step (fun _ => by rw [laws_FnExactRowTrim.j4]) ?_)
  refine ev_bind (markRow va vb vl (by omega)) (ev_bind (heldRow va vb vl.length (by omega)) (ev_neg (by omega) ?_))
  refine ev_step (fun _ => by rw [laws_FnExactRowTrim.j5]) ?_
  refine ev_pos rfl (ev_step (fun _ => by rw [laws_FnExactRowTrim.j6]) ?_)
  refine ev_bind (toRow a b l hn) (ev_bind e2 (ev_bind (eqRow va vb vl (by omega)) (ev_pos rfl ?_)))
  refine ev_step (fun _ => by rw [laws_FnExactRowTrim.j7]) ?_
  exact ev_bind (heldRow va vb vl.length (by omega)) (ev_neg (by omega) (ev_pos rfl (ev_now rfl)))
end Go.Proofs.Ythmjhhkheohgfaa.Pure

/- The law FnExactRowTrim: its statement holds, for all arguments. Made by a program of ours out of the plain theorem and the walk. No condition. -/
namespace Go.Proofs.Ythmjhhkheohgfaa.fnExactRowTrim
open Go.ChangeShapes Go.WideShapes Go.ChangeAt Go.RowKit Go.Proofs.YthmjhhkheohgfaaW.PrintWords Go.Proofs.Ythmjhhkheohgfaa.Q Go.Proofs.Ythmjhhkheohgfaa.R
open Go.ChangeMaps (open_string shut_string)
set_option linter.unusedVariables false
theorem own : ownKnob Try.prog.godebug = none := by kernel_rfl
theorem laidOut : laidOutB Try.prog = true := by kernel_rfl
set_option maxRecDepth 100000 in
theorem lifted (os : Os) (started : os.Started) (H : Type) (enc : TypeId × Value → H) :
    ReturnsInHanded {} Try.checked os 6 .any (Rows.fnExactRowTrimSpec.pre6 enc Try.prog Try.f6 Rows.fnExactRowTrimRow.domain false) (Rows.fnExactRowTrimSpec.post enc Try.prog Try.f6 false true false false) := by
  refine returnsInHanded_of_change_sized (C := Try.checked) own started (by kernel_rfl) Try.func6
    (ChangeSpec.witness6 (enc := enc) (C := Try.checked) false ⟨#[], #[.agg #[.int .i64 0, .int .i64 0, .slice none 0 0], .int .i64 0, .int .i64 0], []⟩ 8 (by kernel_rfl) (by kernel_rfl) (by kernel_rfl) (by kernel_rfl)) ?_
  intro W base args ds gs before hval0 hW hcnd hsz0 _
  have hval : ∀ (j : Nat) t v, Try.f6.params[j]? = some t → args[j]? = some v → Value.okWide Try.prog W .any base t v := hval0
  have hW' := hW
  obtain ⟨p, q, hA0, hV, rfl, hfz, hnd⟩ := hW
  have hA : DataW.TrodAll enc Try.prog W 0 (fun _ => true) true Try.f6.params.toList args.toList ds p := hA0
  rw [Try.params6] at hA hval
  obtain ⟨v0, vs0, d0, ds0, p0, q0, hargs, rfl, rfl, h0, r0⟩ := trodAll_cons hA
  obtain ⟨v1, vs1, d1, ds1, p1, q1, rfl, rfl, rfl, h1, r1⟩ := trodAll_cons r0
  obtain ⟨v2, vs2, d2, ds2, p2, q2, rfl, rfl, rfl, h2, r2⟩ := trodAll_cons r1
  obtain ⟨rfl, rfl, rfl⟩ := trodAll_nil r2
  obtain rfl : args = #[v0, v1, v2] := by cases args; simp_all
  obtain ⟨rfl, rfl⟩ := trodVars_none hV
  have k0 := h0
  have lt0 : ∀ x ∈ p0, x.block < W.heap.size := by obtain ⟨m, hm⟩ := k0; exact DataW.trod_lt m _ _ _ hm
  obtain ⟨cs0, rfl, hsz0⟩ := okWide_struct Try.underlying56 (hval 0 56 v0 rfl rfl)
  obtain ⟨fuel0, hf0⟩ := h0
  obtain ⟨a0_0, a0_1, a0_2, A0_2, c0_2, hz0, w0_0, w0_1, w0_2, hc0_2, hr0_2⟩ := open_LRow (cs := cs0.toList) hf0
  obtain rfl : cs0 = #[.int .i64 a0_0, .int .i64 a0_1, .slice A0_2 a0_2.length c0_2] := by apply Array.toList_inj.mp; exact hz0
  have k1 := h1
  have lt1 : ∀ x ∈ p1, x.block < W.heap.size := by obtain ⟨m, hm⟩ := k1; exact DataW.trod_lt m _ _ _ hm
  obtain ⟨a1, rfl, rfl, rfl, w1⟩ := open_int Try.underlying3 (hval 1 3 v1 rfl rfl) h1
  have k2 := h2
  have lt2 : ∀ x ∈ p2, x.block < W.heap.size := by obtain ⟨m, hm⟩ := k2; exact DataW.trod_lt m _ _ _ hm
  obtain ⟨a2, rfl, rfl, rfl, w2⟩ := open_int Try.underlying3 (hval 2 3 v2 rfl rfl) h2
  clear hA0 hval0 hsz0
  obtain ⟨k, hk⟩ := Pure.FnExactRowTrim a0_0 a0_1 a0_2 a1 a2 w0_0 w0_1 w0_2 w1 w2
  refine (laws_FnExactRowTrim.calls (w := W) (hr0_2 := hr0_2) (hc0_2 := hc0_2) (h := hk)).mono fun e W' he => ?_
  obtain ⟨rfl, bel0⟩ := he
  have bel : Below W.heap.size W W' := by first | exact bel0 | exact Drawn0.below bel0
  exact ⟨_, rfl, _, _, _, [], _, [], hW', trodAll_mk1 (shut_bool Try.underlying4 _), (trodAll_cons_mk (Below.trod laidOut (by kernel_rfl) (of_decide_eq_true (by kernel_rfl)) k0 bel lt0) (trodAll_cons_mk (Below.trod laidOut (by kernel_rfl) (of_decide_eq_true (by kernel_rfl)) k1 bel lt1) (trodAll_cons_mk (Below.trod laidOut (by kernel_rfl) (of_decide_eq_true (by kernel_rfl)) k2 bel lt2) trodAll_mk0))), rfl, bel.frame _, fun h => by cases h⟩
theorem over : Rows.fnExactRowTrimRow.holds Try.pinned (OpenSpec.ofChange Rows.fnExactRowTrimSpec) :=
  OpenClaim.holds_of_wide 6 Try.f6 rfl rfl rfl rfl rfl rfl rfl ⟨rfl, rfl, rfl, rfl, rfl⟩ rfl rfl rfl rfl rfl (by kernel_rfl) Try.func6 (by kernel_rfl)
    (of_decide_eq_true (by kernel_rfl)) (by unfold Func.isWrapper; first | (rw [if_pos (by decide +kernel)]; kernel_rfl) | (rw [if_neg (by decide +kernel)]; exact ⟨rfl, rfl⟩))
    (fun os started H enc _ => lifted os started H enc)
end Go.Proofs.Ythmjhhkheohgfaa.fnExactRowTrim
namespace Go.Proofs.Ythmjhhkheohgfaa
/-- The row, under a short name, for the claim. -/
theorem fnExactRowTrim_holds : Rows.FnExactRowTrimSaid := fnExactRowTrim.over
#print axioms fnExactRowTrim_holds
end Go.Proofs.Ythmjhhkheohgfaa

