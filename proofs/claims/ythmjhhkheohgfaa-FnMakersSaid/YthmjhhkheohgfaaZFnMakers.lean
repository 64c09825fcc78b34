/- The law FnMakers holds, for all arguments: its row, and behind it the plain side of what the program and the reference compute. Conditions: those that each theorem states; the row has none. -/
import Derived.Test.YthmjhhkheohgfaaRows
import Derived.Deep.Slices
import Derived.ChangeArms
import Derived.WideShapes
import Derived.Laws.BitsLemmas
import Derived.WalkKit
import Derived.ProofKit
import Derived.OpenShut
import Derived.ShutString
import Derived.ChangeOld
import Derived.Below
import Derived.SizedLaws
import Derived.Test.YthmjhhkheohgfaaZFnMakers0
import Derived.Test.YthmjhhkheohgfaaZFnMakersa
import Derived.Test.YthmjhhkheohgfaaZFnMakersb
import Derived.Test.YthmjhhkheohgfaaZFnMakersc
import Derived.Test.YthmjhhkheohgfaaZFnMakersd
import Derived.Test.YthmjhhkheohgfaaZFnMakerse
import Derived.Test.YthmjhhkheohgfaaZFnMakersf
import Derived.Test.YthmjhhkheohgfaaZFnMakersg
/- What is read as data is of a printed kind: whole numbers, texts, structs of one-cell fields, slices. For the laws' rows. No condition. -/
namespace Go.Proofs.Ythmjhhkheohgfaa.R
open Go.RowKit Go.Proofs.YthmjhhkheohgfaaW.PrintWords Go.WideShapes

/-- Whatever is read as data of type t has cells that are of kind d. -/
def Rd {α : Type} (P : Program) (t : TypeId) (d : Kd α) (wf : α → Prop) : Prop :=
  ∀ (H : Type) (enc : TypeId × Value → H) (W : World) (base : Nat) (spare : Nat → Bool) (held : Bool) (fuel : Nat) (cs : List Value) (x : DataW H × List MemPlace),
    DataW.trod enc P W base spare held fuel t cs = some x → ∃ a, d.K W a cs ∧ wf a
theorem rd_int {P : Program} {t : TypeId} {k : IntKind} (ht : P.underlying t = some (.int k)) : Rd P t (Kd.int k) (fun n => (Lit.int k n).wf = true) := by
  intro H enc W base spare held fuel cs x h
  obtain ⟨n, rfl, _, hw⟩ := DataW.trod_int ht h
  exact ⟨n, rfl, hw⟩
theorem rd_string {P : Program} {t : TypeId} (ht : P.underlying t = some .string) : Rd P t Kd.string (fun s => s.size ≤ maxLen) := by
  intro H enc W base spare held fuel cs x h
  obtain ⟨s, rfl, _, hw⟩ := DataW.trod_string ht h
  exact ⟨s, rfl, hw⟩
theorem rd_slice {α : Type} {P : Program} {t e : TypeId} {d : Kd α} {wf : α → Prop} (ht : P.underlying t = some (.slice e)) (hs : P.cellsOf e = d.sz) (hr : Rd P e d wf) :
    Rd P t (Kd.slice e d) (fun xs => xs.length ≤ maxLen ∧ ∀ x ∈ xs, wf x) := by
  intro H enc W base spare held fuel cs x h
  rcases Go.Deep.open_slice ht h with ⟨rfl, _⟩ | ⟨a, len, cap, m, n, D, Pl, rfl, hb, hl, hm, hmm, _, hx⟩
  · exact ⟨[], ⟨none, 0, rfl, Nat.le_refl _, rfl, by simp, fun h0 => absurd h0 (by simp)⟩, by simp, by simp⟩
  · have hml : len ≤ m := by rw [hmm]; split <;> omega
    have key : ∀ i, i < len → ∃ p : α, wf p ∧ ∃ c, c.length = d.sz ∧ d.K W p c ∧ ∀ q u, c[q]? = some u → W.cell? (a.add (i * d.sz + q)) = some u := by
      intro i hi
      obtain ⟨cs', h1, h2⟩ := hx i (by omega)
      obtain ⟨p, hp, hw⟩ := hr H enc W base spare held n cs' _ h2
      obtain ⟨_, hlen, hc⟩ := World.cells?_some h1
      rw [hs] at hlen hc
      refine ⟨p, hw, cs', hlen, hp, fun q u hq => ?_⟩
      have hq' : q < d.sz := by
        have := (List.getElem?_eq_some_iff.1 hq).1
        omega
      rw [← hq, ← hc q hq', Go.Deep.add_add]
    have key2 : ∃ f : Nat → Option α, ∀ i, i < len → ∃ p, f i = some p ∧ wf p ∧ ∃ c, c.length = d.sz ∧ d.K W p c ∧ ∀ q u, c[q]? = some u → W.cell? (a.add (i * d.sz + q)) = some u := by
      classical
      refine ⟨fun i => if hi : i < len then some (Classical.choose (key i hi)) else none, fun i hi => ⟨Classical.choose (key i hi), by simp [hi], Classical.choose_spec (key i hi)⟩⟩
    obtain ⟨f, hf⟩ := key2
    have hlen : ∀ k, k ≤ len → ((List.range k).filterMap f).length = k ∧ ∀ j, j < k → ((List.range k).filterMap f)[j]? = f j := by
      intro k
      induction k with
      | zero => intro _; exact ⟨rfl, fun j hj => absurd hj (by omega)⟩
      | succ k ih =>
        intro hk
        obtain ⟨i1, i2⟩ := ih (by omega)
        obtain ⟨p, hp, _⟩ := hf k (by omega)
        have e : (List.range (k + 1)).filterMap f = (List.range k).filterMap f ++ [p] := by rw [List.range_succ, List.filterMap_append]; simp [hp]
        refine ⟨by rw [e]; simp [i1], fun j hj => ?_⟩
        rw [e]
        rcases Nat.lt_or_ge j k with h1 | h1
        · rw [List.getElem?_append_left (by omega)]; exact i2 j h1
        · obtain rfl : j = k := by omega
          rw [List.getElem?_append_right (by omega), i1]; simp [hp]
    obtain ⟨i1, i2⟩ := hlen len (Nat.le_refl _)
    refine ⟨(List.range len).filterMap f, ⟨some a, cap, by rw [i1], by rw [i1]; exact hl, rfl, by rw [i1]; simp only [maxLen] at hm; omega, fun _ => ⟨a, rfl, fun j p hj => ?_⟩⟩, by rw [i1]; omega, fun p hp => ?_⟩
    · have hj' : j < len := by
        have := (List.getElem?_eq_some_iff.1 hj).1
        omega
      obtain ⟨p', hp', _, hc⟩ := hf j hj'
      rw [i2 j hj', hp'] at hj
      cases hj
      exact hc
    · obtain ⟨i, hi, hfi⟩ := List.mem_filterMap.1 hp
      obtain ⟨p', hp', hw, _⟩ := hf i (by simpa using hi)
      rw [hp'] at hfi
      cases hfi
      exact hw
/-- The fields of a struct, each of one cell, cell by cell. -/
theorem rd_fields {H : Type} {enc : TypeId × Value → H} {P : Program} {W : World} {base : Nat} {spare : Nat → Bool} {held : Bool} {fuel : Nat} {t : TypeId} {fs : Array Field} {cs : List Value} {x : DataW H × List MemPlace}
    (ht : P.underlying t = some (.struct fs)) (h : DataW.trod enc P W base spare held fuel t cs = some x) : cs.length = P.cellsOf t ∧ ∃ n, ∀ (i : Nat) (f : Field), fs[i]? = some f → ∃ y, DataW.trod enc P W base spare held n f.type ((cs.drop f.offset).take (P.cellsOf f.type)) = some y := by
  obtain ⟨xs, n, _, _, hl, hlen, hf⟩ := DataW.trod_struct ht h
  refine ⟨hl, n, fun i f hi => ?_⟩
  have hi' : i < xs.length := by
    rw [hlen]
    exact (Array.getElem?_eq_some_iff.1 hi).1
  exact ⟨xs[i], by rw [hf i f hi, List.getElem?_eq_getElem hi']⟩
end Go.Proofs.Ythmjhhkheohgfaa.R

/- Small words for plain proofs: what comes to its answer at enough rounds, one step at a time; whole numbers of 64 bits. No condition. -/
namespace Go.Proofs.Ythmjhhkheohgfaa.L
open Go.RowKit Go.Proofs.YthmjhhkheohgfaaW.PrintWords Go.Proofs.YthmjhhkheohgfaaW.PrintLast Go.Proofs.YthmjhhkheohgfaaW.PrintMore

theorem ev_pos {α : Type} {c : Prop} [Decidable c] {f g : Nat → Option α} {r : α} (h : c) (k : Ev f r) : Ev (fun n => if c then f n else g n) r := by
  simpa only [if_pos h] using k
theorem ev_neg {α : Type} {c : Prop} [Decidable c] {f g : Nat → Option α} {r : α} (h : ¬ c) (k : Ev g r) : Ev (fun n => if c then f n else g n) r := by
  simpa only [if_neg h] using k
theorem ev_ite {α : Type} {c : Prop} [Decidable c] {f g : Nat → Option α} {r : α} (h : c → Ev f r) (k : ¬ c → Ev g r) : Ev (fun n => if c then f n else g n) r := by
  by_cases hc : c
  · exact ev_pos hc (h hc)
  · exact ev_neg hc (k hc)
theorem ev_some {α β : Type} {g : Option α} {f : Nat → α → Option β} {a : α} {r : β} (h : g = some a) (k : Ev (fun n => f n a) r) : Ev (fun n => g.bind (f n)) r := by
  subst h
  exact k
theorem ev_bind {α β : Type} {g : Nat → Option α} {f : Nat → α → Option β} {a : α} {r : β} (h : Ev g a) (k : Ev (fun n => f n a) r) : Ev (fun n => (g n).bind (f n)) r := Ev.bind h k
/-- one round more -/
theorem ev_step {α : Type} {g f : Nat → Option α} {r : α} (h : ∀ k, g (k + 1) = f k) (k : Ev f r) : Ev g r := Ev.step h k
theorem ev_eq {α : Type} {g : Nat → Option α} {r r' : α} (h : r = r') (k : Ev g r) : Ev g r' := h ▸ k
theorem ev_now {α : Type} {r r' : α} (h : r = r') : Ev (fun _ => some r) r' := h ▸ Ev.now r

theorem w64 {x : Int} (h0 : -9223372036854775808 ≤ x) (h1 : x ≤ 9223372036854775807) : wrap64 x = x := by
  unfold wrap64
  omega
theorem rd_eq (xs : List Int) (i : Nat) (h : i < xs.length) : rd xs (i : Int) = xs[i] := by
  simp [rd, List.getD_eq_getElem?_getD, h]
end Go.Proofs.Ythmjhhkheohgfaa.L

/- The plain side of the laws' own words on marks and makers, and of MakerAsk: program and reference come to one answer. Condition: lists of at most 2^20 elements behind the size's test. -/
namespace Go.Proofs.Ythmjhhkheohgfaa.L
open Go.RowKit Go.Proofs.YthmjhhkheohgfaaW.PrintWords Go.Proofs.YthmjhhkheohgfaaW.PrintLast Go.Proofs.YthmjhhkheohgfaaW.PrintMore Go.Proofs.Ythmjhhkheohgfaa.Q

theorem rdM (l : List S_Mark) (i : Nat) (h : i < l.length) : rd_Mark l (i : Int) = l[i] := by
  simp [rd_Mark, List.getD_eq_getElem?_getD, h]
/-- an answer of MakerAsk out of its window -/
def askOf : Option S_Mark → Int × Int
  | some x => (1, x.f1)
  | none => (2, 0)
theorem specAsk_row (q a b c e0 : Int) (l : List S_Mark) (hn : l.length ≤ 1048576) : ∀ (d i : Nat), i + d = l.length → Ev (fun k => spec_MakerAsk.l0 k q (i : Int) a b c e0 l) (askOf ((l.drop i).find? fun x => decide (x.f0 = q))) := by
  intro d
  induction d with
  | zero =>
    intro i h
    refine ev_step (fun _ => rfl) (ev_neg (by omega) (ev_now ?_))
    rw [List.drop_eq_nil_of_le (by omega)]
    rfl
  | succ d ih =>
    intro i h
    have e : wrap64 ((i : Int) + 1) = ((i + 1 : Nat) : Int) := by rw [w64 (by omega) (by omega)]; omega
    refine ev_step (fun _ => rfl) (ev_pos (by omega) (ev_pos (by omega) ?_))
    rw [rdM l i (by omega), List.drop_eq_getElem_cons (show i < l.length by omega), e]
    refine ev_ite (fun q => ev_now ?_) (fun q => ?_)
    · rw [List.find?_cons_of_pos (by simpa using q)]
      rfl
    · rw [List.find?_cons_of_neg (by simpa using q)]
      exact ih (i + 1) (by omega)
theorem implAsk_row (q : Int) (l : List S_Mark) (hn : l.length ≤ 1048576) : ∀ (d i : Nat), i + d = l.length → Ev (fun k => impl_MakerAsk.l0 k q l (l.length : Int) (i : Int)) (askOf ((l.drop i).find? fun x => decide (x.f0 = q))) := by
  intro d
  induction d with
  | zero =>
    intro i h
    refine ev_step (fun _ => rfl) (ev_neg (by omega) (ev_now ?_))
    rw [List.drop_eq_nil_of_le (by omega)]
    rfl
  | succ d ih =>
    intro i h
    have e : wrap64 ((i : Int) + 1) = ((i + 1 : Nat) : Int) := by rw [w64 (by omega) (by omega)]; omega
    refine ev_step (fun _ => rfl) (ev_pos (by omega) (ev_pos (by omega) (ev_pos (by omega) ?_)))
    rw [rdM l i (by omega), List.drop_eq_getElem_cons (show i < l.length by omega), e]
    refine ev_ite (fun q => ev_now ?_) (fun q => ?_)
    · rw [List.find?_cons_of_pos (by simpa using q)]
      rfl
    · rw [List.find?_cons_of_neg (by simpa using q)]
      exact ih (i + 1) (by omega)
/-- what MakerAsk comes to -/
def makerAsk (ep last : Int) (l : List S_Mark) (e q : Int) : Int × Int :=
  if e < ep then (4, 0) else if e > ep then (if q = 0 then (0, 0) else (3, 0)) else if q > last then (if wrap64 (q - 1) = last then (0, 0) else (3, 0)) else askOf (l.find? fun x => decide (x.f0 = q))
theorem specMakerAsk (a b ep last e q : Int) (l : List S_Mark) (hn : l.length ≤ 1048576) : Ev (fun k => spec_MakerAsk.f k a b ep last l e q) (makerAsk ep last l e q) := by
  unfold makerAsk
  refine ev_ite (fun h => ev_now (by rw [if_pos h])) (fun h => ?_)
  rw [if_neg h]
  refine ev_ite (fun h2 => ?_) (fun h2 => ?_)
  · rw [if_pos h2]
    exact ev_ite (fun h3 => ev_now (by rw [if_pos h3])) (fun h3 => ev_now (by rw [if_neg h3]))
  · rw [if_neg h2]
    refine ev_ite (fun h3 => ?_) (fun h3 => ?_)
    · rw [if_pos h3]
      exact ev_ite (fun h4 => ev_now (by rw [if_pos h4])) (fun h4 => ev_now (by rw [if_neg h4]))
    · rw [if_neg h3]
      simpa using specAsk_row q a b ep last l hn l.length 0 (by omega)
theorem implMakerAsk (a b ep last e q : Int) (l : List S_Mark) (hn : l.length ≤ 1048576) : Ev (fun k => impl_MakerAsk.f k a b ep last l e q) (makerAsk ep last l e q) := by
  unfold makerAsk
  refine ev_ite (fun h => ev_now (by rw [if_pos h])) (fun h => ?_)
  rw [if_neg h]
  refine ev_ite (fun h2 => ?_) (fun h2 => ?_)
  · rw [if_pos h2]
    refine ev_step (fun _ => by rw [impl_MakerAsk.j0]) ?_
    refine ev_ite (fun h3 => ev_now ?_) (fun h3 => ev_pos h2 (ev_now ?_))
    · rw [if_pos (by simpa using h3)]
    · rw [if_neg (by simpa using h3)]
  · rw [if_neg h2]
    refine ev_step (fun _ => by rw [impl_MakerAsk.j0]) ?_
    refine ev_neg (by simp) (ev_neg h2 ?_)
    refine ev_ite (fun h3 => ?_) (fun h3 => ?_)
    · rw [if_pos h3]
      refine ev_step (fun _ => by rw [impl_MakerAsk.j1]) ?_
      refine ev_ite (fun h4 => ev_now ?_) (fun h4 => ev_pos h3 (ev_now ?_))
      · rw [if_pos (by simpa using h4)]
      · rw [if_neg (by simpa using h4)]
    · rw [if_neg h3]
      refine ev_step (fun _ => by rw [impl_MakerAsk.j1]) ?_
      refine ev_neg (by simp) (ev_neg h3 ?_)
      refine ev_step (fun _ => by rw [impl_MakerAsk.j2]) ?_
      simpa using implAsk_row q l hn l.length 0 (by omega)
end Go.Proofs.Ythmjhhkheohgfaa.L

/- What is drawn: a draw comes to its end, and its answer keeps to bounds. Condition: a cursor that stands at no place below 0. -/
set_option linter.unusedVariables false
namespace Go.Proofs.Ythmjhhkheohgfaa.L
open Go.RowKit Go.Proofs.YthmjhhkheohgfaaW.PrintWords Go.Proofs.YthmjhhkheohgfaaW.PrintLast Go.Proofs.YthmjhhkheohgfaaW.PrintMore Go.Proofs.Ythmjhhkheohgfaa.Q

/-- it comes to an answer, at enough rounds, of which P is true -/
def Dr {α : Type} (f : Nat → Option α) (P : α → Prop) : Prop := ∃ r, Ev f r ∧ P r
theorem dr_now {α : Type} {r : α} {P : α → Prop} (h : P r) : Dr (fun _ => some r) P := ⟨r, ev_now rfl, h⟩
theorem dr_of {α : Type} {f : Nat → Option α} {r : α} {P : α → Prop} (h : Ev f r) (k : P r) : Dr f P := ⟨r, h, k⟩
theorem dr_bind {α β : Type} {g : Nat → Option α} {f : Nat → α → Option β} {P : α → Prop} {Q : β → Prop} (h : Dr g P) (k : ∀ a, P a → Dr (fun n => f n a) Q) : Dr (fun n => (g n).bind (f n)) Q := by
  obtain ⟨a, ha, pa⟩ := h
  obtain ⟨b, hb, qb⟩ := k a pa
  exact ⟨b, ev_bind ha hb, qb⟩
theorem dr_some {α β : Type} {g : Option α} {f : Nat → α → Option β} {P : α → Prop} {Q : β → Prop} (h : ∃ a, g = some a ∧ P a) (k : ∀ a, P a → Dr (fun n => f n a) Q) : Dr (fun n => g.bind (f n)) Q := by
  obtain ⟨a, rfl, pa⟩ := h
  exact k a pa
theorem dr_eq {α β : Type} {g : Option α} {f : Nat → α → Option β} {a : α} {Q : β → Prop} (h : g = some a) (k : Dr (fun n => f n a) Q) : Dr (fun n => g.bind (f n)) Q := by
  subst h
  exact k
theorem dr_pos {α : Type} {c : Prop} [Decidable c] {f g : Nat → Option α} {P : α → Prop} (h : c) (k : Dr f P) : Dr (fun n => if c then f n else g n) P := by
  simpa only [if_pos h] using k
theorem dr_neg {α : Type} {c : Prop} [Decidable c] {f g : Nat → Option α} {P : α → Prop} (h : ¬ c) (k : Dr g P) : Dr (fun n => if c then f n else g n) P := by
  simpa only [if_neg h] using k
theorem dr_ite {α : Type} {c : Prop} [Decidable c] {f g : Nat → Option α} {P : α → Prop} (h : c → Dr f P) (k : ¬ c → Dr g P) : Dr (fun n => if c then f n else g n) P := by
  by_cases hc : c
  · exact dr_pos hc (h hc)
  · exact dr_neg hc (k hc)
theorem dr_step {α : Type} {g f : Nat → Option α} {P : α → Prop} (h : ∀ k, g (k + 1) = f k) (k : Dr f P) : Dr g P := by
  obtain ⟨r, hr, p⟩ := k
  exact ⟨r, ev_step h hr, p⟩
theorem and255 (n : Int) : Go.bits .and .i64 n 255 = n % 256 := by
  have h255 : (BitVec.ofInt 64 255).toNat = 2 ^ 8 - 1 := by decide
  have key : (BitVec.ofInt 64 n &&& BitVec.ofInt 64 255).toNat = (n % ((2 ^ 64 : Nat) : Int)).toNat % 2 ^ 8 := by
    rw [BitVec.toNat_and, BitVec.toNat_ofInt, h255, Nat.and_two_pow_sub_one_eq_mod]
  show IntKind.i64.wrap ((BitVec.ofInt 64 n &&& BitVec.ofInt 64 255).toNat : Nat) = n % 256
  rw [key, IntKind.wrap_i64]
  omega
/-- a cursor's place is one that it may stand at -/
def okC (i : Int) : Prop := 0 ≤ i ∧ i ≤ 1048576
theorem okC_zero : okC 0 := by unfold okC; omega
theorem l1New_l0 (l : List Int) (hl : l.length ≤ 1048576) : ∀ (d i : Nat) (h : Int), i + d = l.length → Dr (fun k => spec_l1New.l0 k l h (i : Int)) (fun r => r.1 = l ∧ okC r.2.1) := by
  intro d
  induction d with
  | zero => intro i h q; exact dr_step (fun _ => rfl) (dr_neg (by omega) (dr_now ⟨rfl, okC_zero⟩))
  | succ d ih =>
    intro i h q
    have e : wrap64 ((i : Int) + 1) = ((i + 1 : Nat) : Int) := by rw [w64 (by omega) (by omega)]; omega
    refine dr_step (fun _ => rfl) (dr_pos (by omega) (dr_ite (fun _ => dr_pos (by omega) ?_) (fun _ => dr_now ⟨rfl, okC_zero⟩)))
    rw [e]
    exact ih (i + 1) _ (by omega)
theorem l1New (l : List Int) (hl : l.length ≤ 1048576) : Dr (fun k => spec_l1New.f k l) (fun r => r.1 = l ∧ okC r.2.1) := l1New_l0 l hl l.length 0 _ (by omega)
theorem l1Byte (l : List Int) (hl : l.length ≤ 1048576) (i h : Int) (hi : okC i) : ∃ r, spec_l1Byte.f l i h = some r ∧ 0 ≤ r.1 ∧ r.1 ≤ 255 ∧ okC r.2.1 := by
  unfold okC at hi
  unfold spec_l1Byte.f
  simp only [and255]
  split
  · rw [if_pos hi.1]
    refine ⟨_, rfl, ?_, ?_, ?_⟩
    · show 0 ≤ _ % 256
      omega
    · show _ % 256 ≤ 255
      omega
    · show 0 ≤ wrap64 (i + 1) ∧ wrap64 (i + 1) ≤ 1048576
      rw [w64 (by omega) (by omega)]
      omega
  · refine ⟨_, rfl, ?_, ?_, hi⟩
    · show 0 ≤ _ % 256
      omega
    · show _ % 256 ≤ 255
      omega
theorem l1Below (l : List Int) (hl : l.length ≤ 1048576) (i h n : Int) (hi : okC i) (hn : n ≤ 2147483647) : ∃ r, spec_l1Below.f l i h n = some r ∧ 0 ≤ r.1 ∧ (0 < n → r.1 < n) ∧ okC r.2.1 := by
  unfold spec_l1Below.f
  split
  · exact ⟨_, rfl, by show (0 : Int) ≤ 0; omega, fun _ => by omega, hi⟩
  · split
    · obtain ⟨r, hr, h0, h1, h2⟩ := l1Byte l hl i h hi
      rw [hr, Option.bind_some, if_neg (by omega)]
      refine ⟨_, rfl, ?_, fun _ => ?_, h2⟩
      · show 0 ≤ Int.tmod r.1 n
        rw [Int.tmod_eq_emod_of_nonneg h0]
        exact Int.emod_nonneg _ (by omega)
      · show Int.tmod r.1 n < n
        rw [Int.tmod_eq_emod_of_nonneg h0]
        exact Int.emod_lt_of_pos _ (by omega)
    · obtain ⟨a, ha, a0, a1, ai⟩ := l1Byte l hl i h hi
      obtain ⟨b, hb, b0, b1, bi⟩ := l1Byte l hl a.2.1 a.2.2 ai
      obtain ⟨c, hc, c0, c1, ci⟩ := l1Byte l hl b.2.1 b.2.2 bi
      obtain ⟨d, hd, d0, d1, di⟩ := l1Byte l hl c.2.1 c.2.2 ci
      rw [ha, Option.bind_some, hb, Option.bind_some, hc, Option.bind_some, hd, Option.bind_some, if_neg (by omega)]
      have e1 : wrap64 (a.1 * 16777216) = a.1 * 16777216 := w64 (by omega) (by omega)
      have e2 : wrap64 (b.1 * 65536) = b.1 * 65536 := w64 (by omega) (by omega)
      have e3 : wrap64 (c.1 * 256) = c.1 * 256 := w64 (by omega) (by omega)
      have e4 : wrap64 (a.1 * 16777216 + b.1 * 65536) = a.1 * 16777216 + b.1 * 65536 := w64 (by omega) (by omega)
      have e5 : wrap64 (a.1 * 16777216 + b.1 * 65536 + c.1 * 256) = a.1 * 16777216 + b.1 * 65536 + c.1 * 256 := w64 (by omega) (by omega)
      have e6 : wrap64 (a.1 * 16777216 + b.1 * 65536 + c.1 * 256 + d.1) = a.1 * 16777216 + b.1 * 65536 + c.1 * 256 + d.1 := w64 (by omega) (by omega)
      rw [e1, e2, e3, e4, e5, e6]
      refine ⟨_, rfl, ?_, fun _ => ?_, di⟩
      · show 0 ≤ Int.tmod _ n
        rw [Int.tmod_eq_emod_of_nonneg (by omega)]
        exact Int.emod_nonneg _ (by omega)
      · show Int.tmod _ n < n
        rw [Int.tmod_eq_emod_of_nonneg (by omega)]
        exact Int.emod_lt_of_pos _ (by omega)
theorem l1Once (l : List Int) (hl : l.length ≤ 1048576) (i h n : Int) (hi : okC i) (hn : n ≤ 2147483647) : ∃ r, spec_l1Once.f l i h n = some r ∧ okC r.2.1 := by
  obtain ⟨r, hr, _, _, h2⟩ := l1Below l hl i h n hi hn
  unfold spec_l1Once.f
  rw [hr, Option.bind_some]
  exact ⟨_, rfl, h2⟩
theorem l1PickInt (l : List Int) (hl : l.length ≤ 1048576) (i h : Int) (xs : List Int) (hi : okC i) (h0 : 0 < xs.length) (hn : xs.length ≤ 1048576) : ∃ r, spec_l1PickInt.f l i h xs = some r ∧ r.1 ∈ xs ∧ okC r.2.1 := by
  obtain ⟨r, hr, r0, r1, h2⟩ := l1Below l hl i h (xs.length : Int) hi (by omega)
  have r1 := r1 (by omega)
  unfold spec_l1PickInt.f
  rw [hr, Option.bind_some, if_pos r0, if_pos r1]
  refine ⟨_, rfl, ?_, h2⟩
  obtain ⟨j, hj⟩ := Int.eq_ofNat_of_zero_le r0
  show rd xs r.1 ∈ xs
  rw [hj]
  have : j < xs.length := by omega
  show rd xs (j : Int) ∈ xs
  rw [rd_eq xs j this]
  exact List.getElem_mem _
end Go.Proofs.Ythmjhhkheohgfaa.L

/- The plain side of MakerPut and of the laws' marks on makers: program and reference come to one answer. Condition: lists of at most 2^20 elements. -/
namespace Go.Proofs.Ythmjhhkheohgfaa.L
open Go.RowKit Go.Proofs.YthmjhhkheohgfaaW.PrintWords Go.Proofs.YthmjhhkheohgfaaW.PrintLast Go.Proofs.YthmjhhkheohgfaaW.PrintMore Go.Proofs.Ythmjhhkheohgfaa.Q

theorem specCopyMaker (a b c d : Int) (l : List S_Mark) (hn : l.length ≤ 2097152) : spec_l4Copy.f a b c d l = some (a, b, c, d, l) := by
  unfold spec_l4Copy.f
  simp only [Option.bind_some, List.length_nil, List.nil_append]
  rw [if_pos (by omega)]
theorem implCopyMaker (a b c d : Int) (l : List S_Mark) (hn : l.length ≤ 2097152) : impl_copyMaker.f a b c d l = some (a, b, c, d, l) := by
  unfold impl_copyMaker.f
  simp only [List.length_nil, List.nil_append]
  rw [if_pos (by omega)]
/-- the last marks of a window -/
def keepW (w : Int) (l : List S_Mark) : List S_Mark := l.drop ((l.length : Int) - mx w 0).toNat
/-- what MakerPut comes to -/
def makerPut (a b ep last : Int) (l : List S_Mark) (w e q o : Int) : Int × Int × Int × Int × List S_Mark :=
  if (makerAsk ep last l e q).1 = 0 then (a, b, e, q, keepW w ((if e > ep then [] else l) ++ [⟨q, o⟩])) else (a, b, ep, last, l)
theorem keepW_len (w : Int) (l : List S_Mark) : (keepW w l).length ≤ l.length := by simp [keepW]
theorem makerPut_len (a b ep last : Int) (l : List S_Mark) (w e q o : Int) : (makerPut a b ep last l w e q o).2.2.2.2.length ≤ l.length + 1 := by
  unfold makerPut
  split
  · refine Nat.le_trans (keepW_len _ _) ?_
    split <;> simp
  · exact Nat.le_succ _
theorem specMax (w : Int) : spec_l1Max.f w 0 = some (mx w 0) := by
  unfold spec_l1Max.f mx
  by_cases h : w > 0
  · rw [if_pos h, if_neg (by omega)]
  · rw [if_neg h]
    by_cases h2 : w < 0
    · rw [if_pos h2]
    · rw [if_neg h2, show w = 0 by omega]
theorem mx_bounds (w : Int) (hw : w ≤ 9223372036854775807) : 0 ≤ mx w 0 ∧ mx w 0 ≤ 9223372036854775807 := by
  unfold mx
  split <;> omega
theorem specPut_j1 (a b x y : Int) (l : List S_Mark) (w e q o : Int) (hw : w ≤ 9223372036854775807) (hn : l.length ≤ 1048576) : Ev (fun k => spec_MakerPut.j1 k w e q o a b x y l) (a, b, e, q, keepW w (l ++ [⟨q, o⟩])) := by
  have hm := mx_bounds w hw
  have hl : (l ++ [(⟨q, o⟩ : S_Mark)]).length = l.length + 1 := by simp
  refine ev_step (fun _ => by rw [spec_MakerPut.j1]) ?_
  refine ev_pos (by omega) (ev_some rfl (ev_some (specMax w) ?_))
  by_cases h : ((l ++ [(⟨q, o⟩ : S_Mark)]).length : Int) > mx w 0
  · have e1 : wrap64 (((l ++ [(⟨q, o⟩ : S_Mark)]).length : Int) - mx w 0) = ((l ++ [(⟨q, o⟩ : S_Mark)]).length : Int) - mx w 0 := w64 (by omega) (by omega)
    refine ev_pos h (ev_some rfl (ev_some (specMax w) ?_))
    rw [e1]
    refine ev_pos (by omega) (ev_pos (by omega) (ev_some rfl (ev_pos ?_ (ev_now rfl))))
    simp only [List.length_nil, List.length_drop, List.length_append, List.length_singleton]
    omega
  · refine ev_neg h (ev_now ?_)
    unfold keepW
    rw [show (((l ++ [(⟨q, o⟩ : S_Mark)]).length : Int) - mx w 0).toNat = 0 by omega, List.drop_zero]
theorem specMakerPut (a b ep last : Int) (l : List S_Mark) (w e q o : Int) (hw : w ≤ 9223372036854775807) (hn : l.length ≤ 1048576) : Ev (fun k => spec_MakerPut.f k a b ep last l w e q o) (makerPut a b ep last l w e q o) := by
  refine ev_some (specCopyMaker a b ep last l (by omega)) (ev_bind (specMakerAsk a b ep last e q l hn) ?_)
  unfold makerPut
  by_cases h : (makerAsk ep last l e q).1 = 0
  · rw [if_pos h]
    refine ev_pos h (ev_step (fun _ => by rw [spec_MakerPut.j0]) ?_)
    by_cases h2 : e > ep
    · rw [show (if e > ep then ([] : List S_Mark) else l) = [] from if_pos h2]
      exact ev_pos h2 (specPut_j1 a b ep last [] w e q o hw (by simp))
    · rw [show (if e > ep then ([] : List S_Mark) else l) = l from if_neg h2]
      exact ev_neg h2 (specPut_j1 a b ep last l w e q o hw hn)
  · rw [if_neg h]
    exact ev_neg h (ev_now rfl)
theorem implDrop (l : List S_Mark) (w : Int) (hw : w ≤ 9223372036854775807) (hn : l.length ≤ 1048577) :
    0 ≤ mx (wrap64 ((l.length : Int) - mx w 0)) 0 ∧ mx (wrap64 ((l.length : Int) - mx w 0)) 0 ≤ (l.length : Int) ∧ l.drop (mx (wrap64 ((l.length : Int) - mx w 0)) 0).toNat = keepW w l := by
  have hm := mx_bounds w hw
  have e1 : wrap64 ((l.length : Int) - mx w 0) = (l.length : Int) - mx w 0 := w64 (by omega) (by omega)
  rw [e1]
  have e2 : (mx ((l.length : Int) - mx w 0) 0).toNat = ((l.length : Int) - mx w 0).toNat := by
    generalize (l.length : Int) - mx w 0 = z
    unfold mx
    split <;> omega
  refine ⟨?_, ?_, ?_⟩
  · generalize (l.length : Int) - mx w 0 = z
    unfold mx
    split <;> omega
  · have : (l.length : Int) - mx w 0 ≤ (l.length : Int) := by omega
    generalize (l.length : Int) - mx w 0 = z at this
    unfold mx
    split <;> omega
  · rw [e2]
    rfl
theorem implMakerPut (a b ep last : Int) (l : List S_Mark) (w e q o : Int) (hw : w ≤ 9223372036854775807) (hn : l.length ≤ 1048576) : Ev (fun k => impl_MakerPut.f k a b ep last l w e q o) (makerPut a b ep last l w e q o) := by
  have hl : (l ++ [(⟨q, o⟩ : S_Mark)]).length = l.length + 1 := by simp
  have hl0 : (([] : List S_Mark) ++ [(⟨q, o⟩ : S_Mark)]).length = 1 := by simp
  refine ev_some (implCopyMaker a b ep last l (by omega)) (ev_bind (implMakerAsk a b ep last e q l hn) ?_)
  unfold makerPut
  by_cases h : (makerAsk ep last l e q).1 = 0
  · rw [if_pos h]
    refine ev_pos h (ev_step (fun _ => by rw [impl_MakerPut.j0]) ?_)
    by_cases h2 : e > ep
    · rw [show (if e > ep then ([] : List S_Mark) else l) = [] from if_pos h2]
      obtain ⟨d0, d1, d2⟩ := implDrop (([] : List S_Mark) ++ [(⟨q, o⟩ : S_Mark)]) w hw (by omega)
      refine ev_pos h2 (ev_pos (by simp) (ev_some rfl (ev_pos d0 (ev_pos d1 (ev_some rfl (ev_pos ?_ (ev_now ?_)))))))
      · simp only [List.length_nil, List.length_drop]
        omega
      · rw [d2]
        rfl
    · rw [show (if e > ep then ([] : List S_Mark) else l) = l from if_neg h2]
      obtain ⟨d0, d1, d2⟩ := implDrop (l ++ [(⟨q, o⟩ : S_Mark)]) w hw (by omega)
      refine ev_neg h2 (ev_pos (show l.length < 8796093022208 by omega) (ev_some rfl (ev_pos d0 (ev_pos d1 (ev_some rfl (ev_pos ?_ (ev_now ?_)))))))
      · simp only [List.length_nil, List.length_drop]
        omega
      · rw [d2]
        rfl
  · rw [if_neg h]
    exact ev_neg h (ev_now rfl)
end Go.Proofs.Ythmjhhkheohgfaa.L

/- The plain side of numbers within bounds: program and reference come to one answer. No condition. -/
namespace Go.Proofs.Ythmjhhkheohgfaa.L
open Go.RowKit Go.Proofs.YthmjhhkheohgfaaW.PrintWords Go.Proofs.YthmjhhkheohgfaaW.PrintLast Go.Proofs.YthmjhhkheohgfaaW.PrintMore Go.Proofs.Ythmjhhkheohgfaa.Q

/-- is a number within bounds -/
def inb (x a b : Int) : Bool := decide (a ≤ x) && decide (x ≤ b)
theorem specIn (x a b : Int) : spec_l1In.f x a b = some (inb x a b) := by
  unfold spec_l1In.f inb
  by_cases h : x ≥ a
  · rw [if_pos h]; simp [show a ≤ x from h]
  · rw [if_neg h]; simp [show ¬ a ≤ x from h]
theorem implIn (x a b : Int) : impl_within.f x a b = some (inb x a b) := by
  unfold impl_within.f inb
  by_cases h : x ≥ a
  · rw [if_pos h]; simp [show a ≤ x from h]
  · rw [if_neg h]; simp [show ¬ a ≤ x from h]
theorem inb_true {x a b : Int} : inb x a b = true ↔ a ≤ x ∧ x ≤ b := by simp [inb]
theorem ev_and {g : Nat → Option Bool} {c d : Bool} (h : c = true → Ev g d) : Ev (fun n => if c = true then (g n) else some false) (c && d) := by
  cases c with
  | false => exact ev_neg (by simp) (ev_now rfl)
  | true => exact ev_pos rfl (by simpa using h rfl)

end Go.Proofs.Ythmjhhkheohgfaa.L

/- The plain side of MakerOk, of the program's; and a comparison of makers of the laws. Condition: lists of at most 2^20 elements. -/
namespace Go.Proofs.Ythmjhhkheohgfaa.L
open Go.RowKit Go.Proofs.YthmjhhkheohgfaaW.PrintWords Go.Proofs.YthmjhhkheohgfaaW.PrintLast Go.Proofs.YthmjhhkheohgfaaW.PrintMore Go.Proofs.Ythmjhhkheohgfaa.Q

/-- is the mark at i right in its maker -/
def markAt (last : Int) (l : List S_Mark) (i : Nat) : Bool :=
  decide ((rd_Mark l (i : Int)).f0 = wrap64 (wrap64 (wrap64 (last - (l.length : Int)) + 1) + (i : Int))) && (inb (rd_Mark l (i : Int)).f1 0 100000 && !(decide (0 < i) && decide ((rd_Mark l ((i : Int) - 1)).f1 ≥ (rd_Mark l (i : Int)).f1)))
def allMk (last : Int) (l : List S_Mark) : Nat → Nat → Bool
  | 0, _ => true
  | d + 1, i => markAt last l i && allMk last l d (i + 1)
/-- is a maker right, its marks left out -/
def makerHead (a b e last : Int) (l : List S_Mark) (w : Int) : Bool :=
  inb a 0 3 && (inb b 0 3 && (inb e 0 100000 && (inb last (-1) 100000 && (decide ((l.length : Int) ≤ w) && !((last == (-1)) != ((l.length : Int) == 0))))))
def makerOk (a b e last : Int) (l : List S_Mark) (w : Int) : Bool := makerHead a b e last l w && allMk last l l.length 0
theorem allMk_at (last : Int) (l : List S_Mark) : ∀ (d i : Nat), allMk last l d i = true → ∀ j, i ≤ j → j < i + d → markAt last l j = true := by
  intro d
  induction d with
  | zero => intro i _ j h1 h2; omega
  | succ d ih =>
    intro i h j h1 h2
    unfold allMk at h
    rw [Bool.and_eq_true] at h
    by_cases e : j = i
    · rw [e]; exact h.1
    · exact ih (i + 1) h.2 j (by omega) (by omega)
theorem implMk_l0 (a b e last : Int) (l : List S_Mark) (hn : l.length ≤ 1048576) : ∀ (d i : Nat), i + d = l.length → Ev (fun k => impl_MakerOk.l0 k l (l.length : Int) (i : Int) a b e last l) (allMk last l d i) := by
  intro d
  induction d with
  | zero =>
    intro i h
    refine ev_step (fun _ => by rw [impl_MakerOk.l0]) ?_
    exact ev_neg (by omega) (ev_now rfl)
  | succ d ih =>
    intro i h
    have ei : wrap64 ((i : Int) + 1) = ((i + 1 : Nat) : Int) := by rw [w64 (by omega) (by omega)]; omega
    have hw : 0 < i → wrap64 ((i : Int) - 1) = (i : Int) - 1 := fun q => w64 (by omega) (by omega)
    have stop : ∀ c : Bool, c = true → markAt last l i = false → Ev (fun k => impl_MakerOk.j4 k l (l.length : Int) (i : Int) c a b e last l) (allMk last l (d + 1) i) := fun c hc q => by
      refine ev_step (fun _ => by rw [impl_MakerOk.j4]) ?_
      exact ev_pos hc (ev_now (by simp [allMk, q]))
    have cont : ∀ c : Bool, c = false → markAt last l i = true → Ev (fun k => impl_MakerOk.j4 k l (l.length : Int) (i : Int) c a b e last l) (allMk last l (d + 1) i) := fun c hc q => by
      refine ev_step (fun _ => by rw [impl_MakerOk.j4]) ?_
      refine ev_neg (by simp [hc]) ?_
      rw [ei]
      exact ev_eq (by simp [allMk, q]) (ih (i + 1) (by omega))
    refine ev_step (fun _ => by rw [impl_MakerOk.l0]) ?_
    refine ev_pos (by omega) (ev_step (fun _ => by rw [impl_MakerOk.j3]) ?_)
    refine ev_pos (by omega) (ev_pos (by omega) ?_)
    by_cases q1 : (rd_Mark l (i : Int)).f0 = wrap64 (wrap64 (wrap64 (last - (l.length : Int)) + 1) + (i : Int))
    · refine ev_pos q1 (ev_some (implIn _ _ _) ?_)
      by_cases q2 : inb (rd_Mark l (i : Int)).f1 0 100000 = true
      · refine ev_pos q2 ?_
        by_cases q3 : 0 < i
        · refine ev_pos (by omega) ?_
          rw [hw q3]
          refine ev_pos (by omega) (ev_pos (by omega) ?_)
          by_cases q4 : (rd_Mark l ((i : Int) - 1)).f1 ≥ (rd_Mark l (i : Int)).f1
          · exact stop _ (by simpa using q4) (by simp [markAt, q3]; intro _ _; omega)
          · exact cont _ (by simpa using q4) (by unfold markAt; rw [decide_eq_true q1, q2]; simp; omega)
        · exact ev_neg (by omega) (cont _ rfl (by unfold markAt; rw [decide_eq_true q1, q2]; simp; omega))
      · exact ev_neg q2 (stop _ rfl (by simp [markAt, q2]))
    · exact ev_neg q1 (stop _ rfl (by simp [markAt, q1]))
theorem implMakerOk (a b e last : Int) (l : List S_Mark) (w : Int) (hn : l.length ≤ 1048576) : Ev (fun k => impl_MakerOk.f k a b e last l w) (makerOk a b e last l w) := by
  have go : ∀ c : Bool, Ev (fun k => impl_MakerOk.j0 k c a b e last l) (!c && allMk last l l.length 0) := fun c => by
    refine ev_step (fun _ => by rw [impl_MakerOk.j0]) ?_
    cases c with
    | true => exact ev_pos rfl (ev_now rfl)
    | false =>
      refine ev_neg (by simp) (ev_step (fun _ => by rw [impl_MakerOk.j1]) ?_)
      simpa using implMk_l0 a b e last l hn l.length 0 (by omega)
  have no : makerHead a b e last l w = false → Ev (fun k => impl_MakerOk.j0 k true a b e last l) (makerOk a b e last l w) := fun q => ev_eq (by unfold makerOk; rw [q]; rfl) (go true)
  refine ev_some (implIn _ _ _) ?_
  by_cases q1 : inb a 0 3 = true
  · refine ev_pos q1 (ev_some (implIn _ _ _) ?_)
    by_cases q2 : inb b 0 3 = true
    · refine ev_pos q2 (ev_some (implIn _ _ _) ?_)
      by_cases q3 : inb e 0 100000 = true
      · refine ev_pos q3 (ev_some (implIn _ _ _) ?_)
        by_cases q4 : inb last (-1) 100000 = true
        · refine ev_pos q4 ?_
          by_cases q5 : (l.length : Int) > w
          · exact ev_pos q5 (no (by unfold makerHead; rw [show decide ((l.length : Int) ≤ w) = false from decide_eq_false (by omega)]; simp))
          · refine ev_neg q5 (ev_eq ?_ (go _))
            unfold makerOk makerHead
            rw [q1, q2, q3, q4, show decide ((l.length : Int) ≤ w) = true from decide_eq_true (by omega)]
            simp
        · exact ev_neg q4 (no (by simp [makerHead, q4]))
      · exact ev_neg q3 (no (by simp [makerHead, q3]))
    · exact ev_neg q2 (no (by simp [makerHead, q2]))
  · exact ev_neg q1 (no (by simp [makerHead, q1]))
theorem sameMaker_l0 (a b c d : Int) (l : List S_Mark) (hn : l.length ≤ 1048577) : ∀ (k i : Nat), i + k = l.length → Ev (fun n => laws_sameMaker.l0 n (i : Int) a b c d l a b c d l) true := by
  intro k
  induction k with
  | zero =>
    intro i h
    refine ev_step (fun _ => by rw [laws_sameMaker.l0]) ?_
    exact ev_neg (by omega) (ev_now rfl)
  | succ k ih =>
    intro i h
    have ei : wrap64 ((i : Int) + 1) = ((i + 1 : Nat) : Int) := by rw [w64 (by omega) (by omega)]; omega
    refine ev_step (fun _ => by rw [laws_sameMaker.l0]) ?_
    refine ev_pos (by omega) (ev_pos (by omega) (ev_pos (by omega) (ev_neg (by simp) ?_)))
    rw [ei]
    exact ih (i + 1) (by omega)
theorem sameMaker (a b c d : Int) (l : List S_Mark) (hn : l.length ≤ 1048577) : Ev (fun n => laws_sameMaker.f n a b c d l a b c d l) true := by
  refine ev_pos rfl (ev_pos rfl (ev_pos rfl (ev_pos rfl ?_)))
  refine ev_step (fun _ => by rw [laws_sameMaker.j0]) ?_
  exact ev_neg (by simp) (sameMaker_l0 a b c d l hn l.length 0 (by omega))
end Go.Proofs.Ythmjhhkheohgfaa.L

/- The plain side of MakerOf and MakerSet: program and reference come to one answer; what is set is found. Condition: lists of at most 2^20 elements, of few marks each. -/
namespace Go.Proofs.Ythmjhhkheohgfaa.L
open Go.RowKit Go.Proofs.YthmjhhkheohgfaaW.PrintWords Go.Proofs.YthmjhhkheohgfaaW.PrintLast Go.Proofs.YthmjhhkheohgfaaW.PrintMore Go.Proofs.Ythmjhhkheohgfaa.Q

theorem rdMk (l : List S_Maker) (i : Nat) (h : i < l.length) : rd_Maker l (i : Int) = l[i] := by
  simp [rd_Maker, List.getD_eq_getElem?_getD, h]
/-- lists of makers of few marks -/
def fewM (n : Nat) (l : List S_Maker) : Prop := ∀ x ∈ l, x.f4.length ≤ n
theorem setL_mem (a : S_Maker) : ∀ (l : List S_Maker) (p : Bool) (y : S_Maker), y ∈ setL a l p → y = a ∨ y ∈ l := by
  intro l
  induction l with
  | nil =>
    intro p y h
    cases p <;> simp [setL] at h
    exact .inl h
  | cons x t ih =>
    intro p y h
    rw [setL] at h
    rcases List.mem_append.1 h with h | h
    · split at h
      · exact .inl (List.mem_singleton.1 h)
      · cases h
    · rcases List.mem_append.1 h with h | h
      · split at h
        · cases h
        · exact .inr (by rw [List.mem_singleton.1 h]; exact List.mem_cons_self ..)
      · rcases ih _ y h with h | h
        · exact .inl h
        · exact .inr (List.mem_cons_of_mem _ h)
theorem setL_few {n : Nat} {a : S_Maker} {l : List S_Maker} (ha : a.f4.length ≤ n) (hl : fewM n l) (p : Bool) : fewM n (setL a l p) := by
  intro y hy
  rcases setL_mem a l p y hy with rfl | h
  · exact ha
  · exact hl y h
theorem setL_len (a : S_Maker) : ∀ (l : List S_Maker) (p : Bool), (setL a l p).length ≤ l.length + (if p = true then 0 else 1) := by
  intro l
  induction l with
  | nil => intro p; cases p <;> simp [setL]
  | cons x t ih =>
    intro p
    rw [setL, List.length_append, List.length_append, List.length_cons]
    have h := ih (p || setC a x p)
    have e1 : (if setE a x = true then ([] : List S_Maker) else [x]).length ≤ 1 := by split <;> simp
    cases p with
    | true =>
      have : setC a x true = false := by simp [setC]
      rw [this] at h ⊢
      simp at h ⊢
      omega
    | false =>
      cases hc : setC a x false with
      | true =>
        rw [hc] at h
        simp at h ⊢
        omega
      | false =>
        rw [hc] at h
        simp at h ⊢
        omega
theorem specSet_l0 (a : S_Maker) (l : List S_Maker) (hn : l.length ≤ 1048576) (hm : fewM 2097152 l) (ha : a.f4.length ≤ 2097152) : ∀ (d i : Nat) (acc : List S_Maker) (p : Bool), i + d = l.length → acc.length + 2 * d ≤ 4194304 →
    Ev (fun k => spec_MakerSet.l0 k l acc p (i : Int) a.f0 a.f1 a.f2 a.f3 a.f4) (acc ++ setL a (l.drop i) p) := by
  intro d
  induction d with
  | zero =>
    intro i acc p h q
    refine ev_step (fun _ => by rw [spec_MakerSet.l0]) ?_
    refine ev_neg (by omega) ?_
    rw [List.drop_eq_nil_of_le (by omega)]
    cases p with
    | true => exact ev_pos rfl (ev_now (by simp [setL]))
    | false => exact ev_neg (by simp) (ev_some (specCopyMaker _ _ _ _ _ ha) (ev_pos (by omega) (ev_now rfl)))
  | succ d ih =>
    intro i acc p h q
    have e : wrap64 ((i : Int) + 1) = ((i + 1 : Nat) : Int) := by rw [w64 (by omega) (by omega)]; omega
    have hd : l.drop i = l[i] :: l.drop (i + 1) := List.drop_eq_getElem_cons (by omega)
    have hx := hm l[i] (List.getElem_mem _)
    have hr := rdMk l i (by omega)
    rw [hd]
    generalize l[i] = x at hr hx
    have next : ∀ (acc' : List S_Maker) (p' : Bool), acc'.length ≤ acc.length + 2 → acc' ++ setL a (l.drop (i + 1)) p' = acc ++ setL a (x :: l.drop (i + 1)) p → Ev (fun k => spec_MakerSet.l0 k l acc' p' ((i + 1 : Nat) : Int) a.f0 a.f1 a.f2 a.f3 a.f4) (acc ++ setL a (x :: l.drop (i + 1)) p) := fun acc' p' hl he => by
      rw [← he]
      exact ih (i + 1) acc' p' (by omega) (by omega)
    have j2 : ∀ c : Bool, c = setC a x p → setE a x = false → Ev (fun k => spec_MakerSet.j2 k l acc p (i : Int) c a.f0 a.f1 a.f2 a.f3 a.f4 x.f0 x.f1 x.f2 x.f3 x.f4) (acc ++ setL a (x :: l.drop (i + 1)) p) := fun c hc he => by
      refine ev_step (fun _ => by rw [spec_MakerSet.j2]) ?_
      rw [e]
      cases c with
      | true =>
        refine ev_pos rfl (ev_some (specCopyMaker _ _ _ _ _ ha) (ev_pos (by omega) (ev_some rfl (ev_some (specCopyMaker _ _ _ _ _ hx) (ev_pos (by simp only [List.length_append, List.length_singleton]; omega) ?_)))))
        exact next _ true (by simp) (by rw [setL, ← hc, he]; simp)
      | false =>
        refine ev_neg (by simp) (ev_some (specCopyMaker _ _ _ _ _ hx) (ev_pos (by omega) ?_))
        exact next _ p (by simp) (by rw [setL, ← hc, he]; simp)
    have j1 : ∀ b : Bool, b = setE a x → Ev (fun k => spec_MakerSet.j1 k l acc p (i : Int) b a.f0 a.f1 a.f2 a.f3 a.f4 x.f0 x.f1 x.f2 x.f3 x.f4) (acc ++ setL a (x :: l.drop (i + 1)) p) := fun b hb => by
      refine ev_step (fun _ => by rw [spec_MakerSet.j1]) ?_
      cases b with
      | true =>
        refine ev_pos rfl ?_
        rw [e]
        cases p with
        | true => exact ev_pos rfl (next acc true (by omega) (by rw [setL, ← hb]; simp [setC]))
        | false =>
          refine ev_neg (by simp) (ev_some (specCopyMaker _ _ _ _ _ ha) (ev_pos (by omega) ?_))
          exact next _ true (by simp) (by rw [setL, ← hb]; simp [setC, ← hb])
      | false =>
        refine ev_neg (by simp) ?_
        cases p with
        | true => exact ev_pos rfl (j2 false (by simp [setC]) hb.symm)
        | false =>
          refine ev_neg (by simp) ?_
          by_cases q1 : x.f0 > a.f0
          · exact ev_pos q1 (j2 true (by simp [setC, q1]) hb.symm)
          · refine ev_neg q1 ?_
            by_cases q2 : x.f0 = a.f0
            · exact ev_pos q2 (j2 _ (by simp [setC, ← hb, q2]) hb.symm)
            · exact ev_neg q2 (j2 false (by simp [setC, ← hb, q1, q2]) hb.symm)
    refine ev_step (fun _ => by rw [spec_MakerSet.l0]) ?_
    refine ev_pos (by omega) (ev_pos (by omega) ?_)
    rw [hr]
    by_cases q1 : x.f0 = a.f0
    · exact ev_pos q1 (j1 _ (by simp [setE, q1]))
    · exact ev_neg q1 (j1 _ (by simp [setE, q1]))
theorem specMakerSet (a : S_Maker) (l : List S_Maker) (hn : l.length ≤ 1048576) (hm : fewM 2097152 l) (ha : a.f4.length ≤ 2097152) : Ev (fun k => spec_MakerSet.f k l a.f0 a.f1 a.f2 a.f3 a.f4) (setL a l false) := by
  have := specSet_l0 a l hn hm ha l.length 0 [] false (by omega) (by simp; omega)
  rw [List.drop_zero, List.nil_append] at this
  exact this
theorem implCopyMakers_l0 (l : List S_Maker) (hn : l.length ≤ 2097152) (hm : fewM 2097152 l) : ∀ (d i : Nat) (acc : List S_Maker), i + d = l.length → acc.length ≤ i → Ev (fun k => impl_copyMakers.l0 k acc l (l.length : Int) (i : Int)) (acc ++ l.drop i) := by
  intro d
  induction d with
  | zero =>
    intro i acc h q
    refine ev_step (fun _ => by rw [impl_copyMakers.l0]) ?_
    exact ev_neg (by omega) (ev_now (by rw [List.drop_eq_nil_of_le (by omega), List.append_nil]))
  | succ d ih =>
    intro i acc h q
    have e : wrap64 ((i : Int) + 1) = ((i + 1 : Nat) : Int) := by rw [w64 (by omega) (by omega)]; omega
    refine ev_step (fun _ => by rw [impl_copyMakers.l0]) ?_
    rw [rdMk l i (by omega), e]
    refine ev_pos (by omega) (ev_pos (by omega) (ev_pos (by omega) (ev_some (implCopyMaker _ _ _ _ _ (hm _ (List.getElem_mem _))) (ev_pos (by omega) ?_))))
    have := ih (i + 1) (acc ++ [l[i]]) (by omega) (by simp; omega)
    rw [List.append_assoc, List.singleton_append, ← List.drop_eq_getElem_cons (by omega)] at this
    exact this
theorem implCopyMakers (l : List S_Maker) (hn : l.length ≤ 2097152) (hm : fewM 2097152 l) : Ev (fun k => impl_copyMakers.f k l) l := by
  have := implCopyMakers_l0 l hn hm l.length 0 [] (by omega) (by simp)
  rw [List.drop_zero, List.nil_append] at this
  exact this
theorem implMakerSet (a : S_Maker) (l : List S_Maker) (hn : l.length ≤ 1048576) (hm : fewM 2097152 l) (ha : a.f4.length ≤ 2097152) : Ev (fun k => impl_MakerSet.f k l a.f0 a.f1 a.f2 a.f3 a.f4) (setL a l false) :=
  ev_bind (implCopyMakers l (by omega) hm) (ev_some (implCopyMaker _ _ _ _ _ ha) (ev_pos (by omega) (ev_now rfl)))
/-- is it the maker of a row and a client -/
def keyM (r w : Int) (x : S_Maker) : Bool := decide (x.f0 = r) && decide (x.f1 = w)
def outM : Option S_Maker → Int → Int → Int × Int × Int × Int × List S_Mark
  | some x, _, _ => (x.f0, x.f1, x.f2, x.f3, x.f4)
  | none, r, w => (r, w, 0, -1, [])
/-- what MakerOf comes to -/
def makerOf (l : List S_Maker) (r w : Int) : Int × Int × Int × Int × List S_Mark := outM (l.find? (keyM r w)) r w
theorem makerOf_few {n : Nat} {l : List S_Maker} (h : fewM n l) (r w : Int) : (makerOf l r w).2.2.2.2.length ≤ n := by
  unfold makerOf
  cases hf : l.find? (keyM r w) with
  | none => exact Nat.zero_le _
  | some x => exact h x (List.mem_of_find?_eq_some hf)
theorem specOf_l0 (l : List S_Maker) (r w : Int) (hn : l.length ≤ 2097152) (hm : fewM 2097152 l) : ∀ (d i : Nat), i + d = l.length → Ev (fun k => spec_MakerOf.l0 k l r w (i : Int)) (outM ((l.drop i).find? (keyM r w)) r w) := by
  intro d
  induction d with
  | zero =>
    intro i h
    refine ev_step (fun _ => by rw [spec_MakerOf.l0]) ?_
    exact ev_neg (by omega) (ev_now (by rw [List.drop_eq_nil_of_le (by omega)]; rfl))
  | succ d ih =>
    intro i h
    have e : wrap64 ((i : Int) + 1) = ((i + 1 : Nat) : Int) := by rw [w64 (by omega) (by omega)]; omega
    refine ev_step (fun _ => by rw [spec_MakerOf.l0]) ?_
    rw [rdMk l i (by omega), e, List.drop_eq_getElem_cons (show i < l.length by omega)]
    refine ev_pos (by omega) (ev_pos (by omega) ?_)
    by_cases q1 : l[i].f0 = r
    · refine ev_pos q1 ?_
      by_cases q2 : l[i].f1 = w
      · refine ev_pos q2 (ev_some (specCopyMaker _ _ _ _ _ (hm _ (List.getElem_mem _))) (ev_now ?_))
        rw [List.find?_cons_of_pos (by simp [keyM, q1, q2])]
        rfl
      · refine ev_neg q2 ?_
        rw [List.find?_cons_of_neg (by simp [keyM, q2])]
        exact ih (i + 1) (by omega)
    · refine ev_neg q1 ?_
      rw [List.find?_cons_of_neg (by simp [keyM, q1])]
      exact ih (i + 1) (by omega)
theorem specMakerOf (l : List S_Maker) (r w : Int) (hn : l.length ≤ 2097152) (hm : fewM 2097152 l) : Ev (fun k => spec_MakerOf.f k l r w) (makerOf l r w) := by
  have := specOf_l0 l r w hn hm l.length 0 (by omega)
  rwa [List.drop_zero] at this
theorem implOf_l0 (l : List S_Maker) (r w : Int) (hn : l.length ≤ 2097152) (hm : fewM 2097152 l) : ∀ (d i : Nat), i + d = l.length → Ev (fun k => impl_MakerOf.l0 k r w l (l.length : Int) (i : Int)) (outM ((l.drop i).find? (keyM r w)) r w) := by
  intro d
  induction d with
  | zero =>
    intro i h
    refine ev_step (fun _ => by rw [impl_MakerOf.l0]) ?_
    exact ev_neg (by omega) (ev_now (by rw [List.drop_eq_nil_of_le (by omega)]; rfl))
  | succ d ih =>
    intro i h
    have e : wrap64 ((i : Int) + 1) = ((i + 1 : Nat) : Int) := by rw [w64 (by omega) (by omega)]; omega
    refine ev_step (fun _ => by rw [impl_MakerOf.l0]) ?_
    rw [rdMk l i (by omega), e, List.drop_eq_getElem_cons (show i < l.length by omega)]
    refine ev_pos (by omega) (ev_pos (by omega) (ev_pos (by omega) ?_))
    by_cases q1 : l[i].f0 = r
    · refine ev_pos q1 ?_
      by_cases q2 : l[i].f1 = w
      · refine ev_pos q2 (ev_some (implCopyMaker _ _ _ _ _ (hm _ (List.getElem_mem _))) (ev_now ?_))
        rw [List.find?_cons_of_pos (by simp [keyM, q1, q2])]
        rfl
      · refine ev_neg q2 ?_
        rw [List.find?_cons_of_neg (by simp [keyM, q2])]
        exact ih (i + 1) (by omega)
    · refine ev_neg q1 ?_
      rw [List.find?_cons_of_neg (by simp [keyM, q1])]
      exact ih (i + 1) (by omega)
theorem implMakerOf (l : List S_Maker) (r w : Int) (hn : l.length ≤ 2097152) (hm : fewM 2097152 l) : Ev (fun k => impl_MakerOf.f k l r w) (makerOf l r w) := by
  have := implOf_l0 l r w hn hm l.length 0 (by omega)
  rwa [List.drop_zero] at this
theorem find_setL (a : S_Maker) : ∀ (l : List S_Maker) (p : Bool), (setL a l p).find? (keyM a.f0 a.f1) = if p = true then none else some a := by
  intro l
  induction l with
  | nil => intro p; cases p <;> simp [setL, keyM]
  | cons x t ih =>
    intro p
    have hE : setE a x = keyM a.f0 a.f1 x := by simp only [setE, keyM]; rfl
    rw [setL]
    cases hc : setC a x p with
    | true =>
      have hp : p = false := by cases p <;> simp [setC] at hc ⊢
      subst hp
      simp [keyM]
    | false =>
      simp only [Bool.false_eq_true, if_false, List.nil_append, Bool.or_false]
      rw [List.find?_append, ih p]
      have hx : (if setE a x = true then ([] : List S_Maker) else [x]).find? (keyM a.f0 a.f1) = none := by
        split
        · rfl
        · rename_i q
          rw [hE] at q
          simp [q]
      rw [hx]
      simp
theorem makerOf_set (a : S_Maker) (l : List S_Maker) : makerOf (setL a l false) a.f0 a.f1 = (a.f0, a.f1, a.f2, a.f3, a.f4) := by
  unfold makerOf
  rw [find_setL]
  rfl
end Go.Proofs.Ythmjhhkheohgfaa.L

/- The plain side of MakerOk, of the reference's; where no mark's number lies below 0 the two agree. Condition: lists of at most 2^20 elements. -/
namespace Go.Proofs.Ythmjhhkheohgfaa.L
open Go.RowKit Go.Proofs.YthmjhhkheohgfaaW.PrintWords Go.Proofs.YthmjhhkheohgfaaW.PrintLast Go.Proofs.YthmjhhkheohgfaaW.PrintMore Go.Proofs.Ythmjhhkheohgfaa.Q

theorem wrapM (last n i : Int) : wrap64 (last - wrap64 (wrap64 (n - 1) - i)) = wrap64 (wrap64 (wrap64 (last - n) + 1) + i) := by
  unfold wrap64
  omega
def specTail (a b e last : Int) (l : List S_Mark) (w : Int) : Bool :=
  !(decide ((l.length : Int) > w) || (decide ((l.length : Int) > wrap64 (last + 1)) || (decide (last ≥ 0) && ((l.length : Int) == 0)))) && (inb a 0 3 && (inb b 0 3 && (inb e 0 100000 && inb last (-1) 100000)))
theorem specMk_j5 (a b e last : Int) (l : List S_Mark) : Ev (fun k => spec_MakerOk.j5 k a b e last l) (inb a 0 3 && (inb b 0 3 && (inb e 0 100000 && inb last (-1) 100000))) := by
  refine ev_step (fun _ => by rw [spec_MakerOk.j5]) ?_
  exact ev_some (specIn _ _ _) (ev_and (fun _ => ev_some (specIn _ _ _) (ev_and (fun _ => ev_some (specIn _ _ _) (ev_and (fun _ => ev_some (specIn _ _ _) (ev_now rfl)))))))
theorem specMk_j3 (a b e last : Int) (l : List S_Mark) (w : Int) : Ev (fun k => spec_MakerOk.j3 k w a b e last l) (specTail a b e last l w) := by
  have j4 : ∀ c : Bool, Ev (fun k => spec_MakerOk.j4 k c a b e last l) (!c && (inb a 0 3 && (inb b 0 3 && (inb e 0 100000 && inb last (-1) 100000)))) := fun c => by
    refine ev_step (fun _ => by rw [spec_MakerOk.j4]) ?_
    cases c with
    | true => exact ev_pos rfl (ev_now rfl)
    | false => exact ev_neg (by simp) (by simpa using specMk_j5 a b e last l)
  refine ev_step (fun _ => by rw [spec_MakerOk.j3]) ?_
  unfold specTail
  by_cases q1 : (l.length : Int) > w
  · rw [decide_eq_true q1]
    exact ev_pos q1 (j4 true)
  · rw [decide_eq_false q1]
    refine ev_neg q1 ?_
    by_cases q2 : (l.length : Int) > wrap64 (last + 1)
    · rw [decide_eq_true q2]
      exact ev_pos q2 (j4 true)
    · rw [decide_eq_false q2]
      refine ev_neg q2 ?_
      by_cases q3 : last ≥ 0
      · rw [decide_eq_true q3]
        exact ev_pos q3 (by simpa using j4 _)
      · rw [decide_eq_false q3]
        exact ev_neg q3 (by simpa using j4 false)
theorem specMk_l0 (a b e last : Int) (l : List S_Mark) (w : Int) (hn : l.length ≤ 1048576) : ∀ (d i : Nat), i + d = l.length → Ev (fun k => spec_MakerOk.l0 k w (i : Int) a b e last l) (allMk last l d i && specTail a b e last l w) := by
  intro d
  induction d with
  | zero =>
    intro i h
    refine ev_step (fun _ => by rw [spec_MakerOk.l0]) ?_
    exact ev_neg (by omega) (by simpa [allMk] using specMk_j3 a b e last l w)
  | succ d ih =>
    intro i h
    have ei : wrap64 ((i : Int) + 1) = ((i + 1 : Nat) : Int) := by rw [w64 (by omega) (by omega)]; omega
    have hw : 0 < i → wrap64 ((i : Int) - 1) = (i : Int) - 1 := fun q => w64 (by omega) (by omega)
    have j2 : ∀ c : Bool, c = !markAt last l i → Ev (fun k => spec_MakerOk.j2 k w (i : Int) c a b e last l) (allMk last l (d + 1) i && specTail a b e last l w) := fun c hc => by
      refine ev_step (fun _ => by rw [spec_MakerOk.j2]) ?_
      rw [ei]
      cases hm : markAt last l i with
      | true =>
        rw [hm] at hc
        refine ev_neg (by simp [hc]) (ev_eq ?_ (ih (i + 1) (by omega)))
        simp [allMk, hm]
      | false =>
        rw [hm] at hc
        exact ev_pos (by simp [hc]) (ev_now (by simp [allMk, hm]))
    refine ev_step (fun _ => by rw [spec_MakerOk.l0]) ?_
    refine ev_pos (by omega) (ev_step (fun _ => by rw [spec_MakerOk.j1]) ?_)
    rw [wrapM]
    refine ev_pos (by omega) (ev_pos (by omega) (ev_some (specIn _ _ _) ?_))
    by_cases q2 : inb (rd_Mark l (i : Int)).f1 0 100000 = true
    · refine ev_pos q2 ?_
      by_cases q1 : (rd_Mark l (i : Int)).f0 = wrap64 (wrap64 (wrap64 (last - (l.length : Int)) + 1) + (i : Int))
      · refine ev_pos q1 ?_
        by_cases q3 : 0 < i
        · refine ev_pos (by omega) ?_
          rw [hw q3]
          exact ev_pos (by omega) (ev_pos (by omega) (j2 _ (by unfold markAt; rw [decide_eq_true q1, q2]; simp [q3])))
        · exact ev_neg (by omega) (j2 _ (by unfold markAt; rw [decide_eq_true q1, q2]; simp; omega))
      · exact ev_neg q1 (j2 _ (by unfold markAt; rw [decide_eq_false q1]; simp))
    · exact ev_neg q2 (j2 _ (by unfold markAt; simp [q2]))
theorem specMakerOk (a b e last : Int) (l : List S_Mark) (w : Int) (hn : l.length ≤ 1048576) : Ev (fun k => spec_MakerOk.f k a b e last l w) (allMk last l l.length 0 && specTail a b e last l w) := specMk_l0 a b e last l w hn l.length 0 (by omega)
theorem makerOk_agree (a b e last : Int) (l : List S_Mark) (w : Int) (hn : l.length ≤ 1048576) (hs : ∀ x ∈ l, 0 ≤ x.f0) : (allMk last l l.length 0 && specTail a b e last l w) = makerOk a b e last l w := by
  unfold makerOk makerHead specTail
  cases hm : allMk last l l.length 0 with
  | false => simp
  | true =>
    cases hb : inb last (-1) 100000 with
    | false => simp
    | true =>
      have hl := inb_true.1 hb
      have ew : wrap64 (last + 1) = last + 1 := w64 (by omega) (by omega)
      have first : 0 < l.length → 0 ≤ last - (l.length : Int) + 1 := fun h0 => by
        have h1 := allMk_at last l l.length 0 hm 0 (Nat.le_refl _) (by omega)
        unfold markAt at h1
        rw [Bool.and_eq_true] at h1
        have h2 := of_decide_eq_true h1.1
        rw [rdM l 0 h0] at h2
        have h3 := hs l[0] (List.getElem_mem _)
        have e1 : wrap64 (last - (l.length : Int)) = last - (l.length : Int) := w64 (by omega) (by omega)
        have e2 : wrap64 (last - (l.length : Int) + 1) = last - (l.length : Int) + 1 := w64 (by omega) (by omega)
        rw [e1, e2, w64 (by omega) (by omega)] at h2
        omega
      rw [ew]
      cases hx : inb a 0 3 <;> cases hy : inb b 0 3 <;> cases hz : inb e 0 100000 <;> simp only [Bool.and_false, Bool.false_and, Bool.and_true, Bool.true_and]
      by_cases g1 : (l.length : Int) > w
      · rw [decide_eq_true g1, decide_eq_false (show ¬ (l.length : Int) ≤ w by omega)]
        simp
      · rw [decide_eq_false g1, decide_eq_true (show (l.length : Int) ≤ w by omega)]
        by_cases g2 : l.length = 0
        · by_cases g3 : last = -1
          · simp [g2, g3]
          · have : last ≥ 0 := by omega
            simp [g2, g3, this]
        · have g3 := first (by omega)
          have g4 : last ≠ -1 := by omega
          have g5 : ¬ (l.length : Int) > last + 1 := by omega
          have g6 : ¬ ((l.length : Int) = 0) := by omega
          have g7 : ((l.length : Int) == 0) = false := beq_eq_false_iff_ne.2 g6
          have g8 : (last == -1) = false := beq_eq_false_iff_ne.2 g4
          rw [decide_eq_false g5, g7, g8]
          simp
end Go.Proofs.Ythmjhhkheohgfaa.L

/- What is drawn of makers: few marks, no number below 0; lists of few makers. Condition: a cursor that stands at no place below 0. -/
namespace Go.Proofs.Ythmjhhkheohgfaa.L
open Go.RowKit Go.Proofs.YthmjhhkheohgfaaW.PrintWords Go.Proofs.YthmjhhkheohgfaaW.PrintLast Go.Proofs.YthmjhhkheohgfaaW.PrintMore Go.Proofs.Ythmjhhkheohgfaa.Q

/-- marks whose numbers lie not below 0 -/
def seqs (l : List S_Mark) : Prop := ∀ y ∈ l, 0 ≤ y.f0
theorem makerPut_seqs (a b ep last : Int) (l : List S_Mark) (w e q o : Int) (hq : 0 ≤ q) (h : seqs l) : seqs (makerPut a b ep last l w e q o).2.2.2.2 := by
  unfold makerPut
  split
  · intro y hy
    have hy2 := List.mem_of_mem_drop hy
    rcases List.mem_append.1 hy2 with h1 | h1
    · split at h1
      · cases h1
      · exact h y h1
    · rw [List.mem_singleton.1 h1]
      exact hq
  · exact h
theorem makerPut_last (a b ep last : Int) (l : List S_Mark) (w e q o : Int) : (makerPut a b ep last l w e q o).2.2.2.1 = q ∨ (makerPut a b ep last l w e q o).2.2.2.1 = last := by
  unfold makerPut
  split
  · exact .inl rfl
  · exact .inr rfl
/-- a drawn maker that is right: n marks at the most, and the cursor's place -/
def okM3 (n : Nat) (x : Int × Int × Int × Int × List S_Mark × Int × Int) : Prop := (x.2.2.2.2.1.length ≤ n ∧ seqs x.2.2.2.2.1) ∧ okC x.2.2.2.2.2.1
theorem rightM3_l0 (l : List Int) (hl : l.length ≤ 1048576) : ∀ (d i : Nat), i + d = 7 → ∀ (ci ch a b e t : Int) (m : List S_Mark), okC ci → m.length ≤ i → seqs m → -1 ≤ t → t < i →
    Dr (fun k => spec_l4DrawRight.l0 k (i : Int) l ci ch a b e t m) (okM3 7) := by
  intro d
  induction d with
  | zero =>
    intro i hi ci ch a b e t m hc hm hs _ _
    obtain ⟨r, hr, r0, r1, r2⟩ := l1Below l hl ci ch 8 hc (by omega)
    have := r1 (by omega)
    refine dr_step (fun _ => by rw [spec_l4DrawRight.l0]) ?_
    exact dr_eq hr (dr_neg (by omega) (dr_now ⟨⟨by show m.length ≤ 7; omega, hs⟩, r2⟩))
  | succ d ih =>
    intro i hi ci ch a b e t m hc hm hs t0 t1
    obtain ⟨r, hr, r0, r1, r2⟩ := l1Below l hl ci ch 8 hc (by omega)
    have ei : wrap64 ((i : Int) + 1) = ((i + 1 : Nat) : Int) := by rw [w64 (by omega) (by omega)]; omega
    have et : wrap64 (t + 1) = t + 1 := w64 (by omega) (by omega)
    have j2 : ∀ (e2 q2 ci ch : Int), 0 ≤ q2 → q2 ≤ i → okC ci → Dr (fun k => spec_l4DrawRight.j2 k (i : Int) e2 q2 l ci ch a b e t m) (okM3 7) := fun e2 q2 ci ch hq0 hq1 hc => by
      refine dr_step (fun _ => by rw [spec_l4DrawRight.j2]) ?_
      refine dr_some (l1Below l hl ci ch 3 hc (by omega)) (fun s hs2 => ?_)
      have s1 := hs2.2.1 (by omega)
      have s0 := hs2.1
      refine dr_bind (dr_of (P := fun y => y.2.2.2.2.length ≤ m.length + 1 ∧ seqs y.2.2.2.2 ∧ (y.2.2.2.1 = q2 ∨ y.2.2.2.1 = t)) (specMakerPut a b e t m (wrap64 (1 + s.1)) e2 q2 (wrap64 (2 * (i : Int))) (by rw [w64 (by omega) (by omega)]; omega) (by omega)) ⟨makerPut_len a b e t m _ e2 q2 _, makerPut_seqs a b e t m _ e2 q2 _ hq0 hs, makerPut_last a b e t m _ e2 q2 _⟩) (fun y hy => ?_)
      rw [ei]
      exact ih (i + 1) (by omega) _ _ _ _ _ _ _ hs2.2.2 (by have := hy.1; omega) hy.2.1 (by rcases hy.2.2 with h | h <;> rw [h] <;> omega) (by rcases hy.2.2 with h | h <;> rw [h] <;> omega)
    refine dr_step (fun _ => by rw [spec_l4DrawRight.l0]) ?_
    refine dr_eq hr (dr_ite (fun _ => ?_) (fun _ => dr_now ⟨⟨by show m.length ≤ 7; omega, hs⟩, r2⟩))
    refine dr_step (fun _ => by rw [spec_l4DrawRight.j1]) ?_
    rw [et]
    exact dr_some (l1Below l hl _ _ 9 r2 (by omega)) (fun s hs2 => dr_ite (fun _ => j2 _ _ _ _ (by omega) (by omega) hs2.2.2) (fun _ => j2 _ _ _ _ (by omega) (by omega) hs2.2.2))
theorem l4DrawRight3 (l : List Int) (hl : l.length ≤ 1048576) (ci ch : Int) (hc : okC ci) : Dr (fun k => spec_l4DrawRight.f k l ci ch) (okM3 7) :=
  dr_some (l1Below l hl ci ch 3 hc (by omega)) (fun r hr => dr_some (l1Below l hl _ _ 4 hr.2.2 (by omega)) (fun s hs => rightM3_l0 l hl 7 0 rfl _ _ _ _ _ _ _ hs.2.2 (by simp) (fun y hy => absurd hy (List.not_mem_nil)) (by omega) (by omega)))
theorem l4Draw3 (l : List Int) (hl : l.length ≤ 1048576) (ci ch : Int) (hc : okC ci) : Dr (fun k => spec_l4Draw.f k l ci ch) (okM3 8) := by
  refine dr_bind (l4DrawRight3 l hl ci ch hc) (fun x hx => ?_)
  obtain ⟨⟨xm, xs⟩, xc⟩ := hx
  refine dr_some (l1Below l hl _ _ 12 xc (by omega)) (fun r hr => ?_)
  refine dr_ite (fun _ => ?_) (fun _ => dr_ite (fun _ => ?_) (fun _ => dr_ite (fun _ => ?_) (fun _ => dr_ite (fun _ => ?_) (fun _ => ?_))))
  · exact dr_some (l1PickInt l hl _ _ _ hr.2.2 (by simp) (by simp)) (fun p hp => dr_now ⟨⟨Nat.le_succ_of_le xm, xs⟩, hp.2⟩)
  · exact dr_some (l1PickInt l hl _ _ _ hr.2.2 (by simp) (by simp)) (fun p hp => dr_now ⟨⟨Nat.le_succ_of_le xm, xs⟩, hp.2⟩)
  · refine dr_some (l1Below l hl _ _ 9 hr.2.2 (by omega)) (fun p hp => dr_some (l1Below l hl _ _ 9 hp.2.2 (by omega)) (fun q hq => dr_pos (by omega) (dr_now ⟨⟨?_, ?_⟩, hq.2.2⟩)))
    · simp only [List.length_append, List.length_cons, List.length_nil]
      omega
    · intro y hy
      rcases List.mem_append.1 hy with h | h
      · exact xs y h
      · rw [List.mem_singleton.1 h]
        exact hp.1
  · exact dr_some (l1PickInt l hl _ _ _ hr.2.2 (by simp) (by simp)) (fun p hp => dr_now ⟨⟨Nat.le_succ_of_le xm, xs⟩, hp.2⟩)
  · exact dr_now ⟨⟨Nat.le_succ_of_le xm, xs⟩, hr.2.2⟩
theorem drawList_l0 (l : List Int) (hl : l.length ≤ 1048576) : ∀ (d i : Nat), i + d = 4 → ∀ (ci ch : Int) (m : List S_Maker), okC ci → m.length ≤ i → fewM 8 m →
    Dr (fun k => spec_l4DrawList.l0 k m (i : Int) l ci ch) (fun x => (x.1.length ≤ 4 ∧ fewM 8 x.1) ∧ okC x.2.1) := by
  intro d
  induction d with
  | zero =>
    intro i hi ci ch m hc hm hf
    obtain ⟨r, hr, r0, r1, r2⟩ := l1Below l hl ci ch 5 hc (by omega)
    have := r1 (by omega)
    refine dr_step (fun _ => by rw [spec_l4DrawList.l0]) ?_
    exact dr_eq hr (dr_neg (by omega) (dr_now ⟨⟨by show m.length ≤ 4; omega, hf⟩, r2⟩))
  | succ d ih =>
    intro i hi ci ch m hc hm hf
    obtain ⟨r, hr, r0, r1, r2⟩ := l1Below l hl ci ch 5 hc (by omega)
    have ei : wrap64 ((i : Int) + 1) = ((i + 1 : Nat) : Int) := by rw [w64 (by omega) (by omega)]; omega
    refine dr_step (fun _ => by rw [spec_l4DrawList.l0]) ?_
    refine dr_eq hr (dr_ite (fun _ => ?_) (fun _ => dr_now ⟨⟨by show m.length ≤ 4; omega, hf⟩, r2⟩))
    refine dr_bind (l4Draw3 l hl _ _ r2) (fun x hx => ?_)
    have hx1 : x.2.2.2.2.1.length ≤ 8 := hx.1.1
    refine dr_bind (dr_of (P := fun y => y.length ≤ i + 1 ∧ fewM 8 y) (specMakerSet ⟨x.1, x.2.1, x.2.2.1, x.2.2.2.1, x.2.2.2.2.1⟩ m (by omega) (fun y hy => Nat.le_trans (hf y hy) (by omega)) (show x.2.2.2.2.1.length ≤ 2097152 by omega)) ⟨Nat.le_trans (setL_len _ _ _) (by simp; omega), setL_few hx1 hf false⟩) (fun y hy => ?_)
    rw [ei]
    exact ih (i + 1) (by omega) _ _ _ hx.2 hy.1 hy.2
theorem l4DrawList (l : List Int) (hl : l.length ≤ 1048576) (ci ch : Int) (hc : okC ci) : Dr (fun k => spec_l4DrawList.f k l ci ch) (fun x => (x.1.length ≤ 4 ∧ fewM 8 x.1) ∧ okC x.2.1) :=
  drawList_l0 l hl 4 0 rfl ci ch [] hc (by simp) (fun y hy => absurd hy (List.not_mem_nil))
theorem drawMakerSet (l : List Int) (hl : l.length ≤ 1048576) : Dr (fun k => spec_DrawMakerSet.f k l) (fun x => (x.1.length ≤ 4 ∧ fewM 8 x.1) ∧ x.2.2.2.2.2.length ≤ 8) := by
  refine dr_bind (l1New l hl) (fun c hc => ?_)
  obtain ⟨c0, ci, ch⟩ := c
  obtain ⟨rfl, hc⟩ := hc
  exact dr_bind (l4DrawList c0 hl ci ch hc) (fun x hx => dr_bind (l4Draw3 c0 hl _ _ hx.2) (fun y hy => dr_now ⟨hx.1, hy.1.1⟩))
theorem drawMakerOf (l : List Int) (hl : l.length ≤ 1048576) : Dr (fun k => spec_DrawMakerOf.f k l) (fun x => x.1.length ≤ 4 ∧ fewM 8 x.1) := by
  refine dr_bind (l1New l hl) (fun c hc => ?_)
  obtain ⟨c0, ci, ch⟩ := c
  obtain ⟨rfl, hc⟩ := hc
  exact dr_bind (l4DrawList c0 hl ci ch hc) (fun x hx => dr_some (l1Below c0 hl _ _ 3 hx.2 (by omega)) (fun r hr => dr_some (l1Below c0 hl _ _ 4 hr.2.2 (by omega)) (fun s _ => dr_now hx.1)))
theorem drawMakerOk (l : List Int) (hl : l.length ≤ 1048576) : Dr (fun k => spec_DrawMakerOk.f k l) (fun x => x.2.2.2.2.1.length ≤ 8 ∧ seqs x.2.2.2.2.1) := by
  refine dr_bind (l1New l hl) (fun c hc => ?_)
  obtain ⟨c0, ci, ch⟩ := c
  obtain ⟨rfl, hc⟩ := hc
  exact dr_bind (l4Draw3 c0 hl ci ch hc) (fun x hx => dr_some (l1PickInt c0 hl _ _ _ hx.2 (by simp) (by simp)) (fun p _ => dr_now hx.1))
theorem drawMakerPut (l : List Int) (hl : l.length ≤ 1048576) : Dr (fun k => spec_DrawMakerPut.f k l) (fun x => x.2.2.2.2.1.length ≤ 8 ∧ x.2.2.2.2.2.1 ≤ 3) := by
  refine dr_bind (l1New l hl) (fun c hc => ?_)
  obtain ⟨c0, ci, ch⟩ := c
  obtain ⟨rfl, hc⟩ := hc
  have j1 : ∀ (e q ci ch a b ep last : Int) (m : List S_Mark), okC ci → m.length ≤ 8 → Dr (fun k => spec_DrawMakerPut.j1 k e q c0 ci ch a b ep last m) (fun x => x.2.2.2.2.1.length ≤ 8 ∧ x.2.2.2.2.2.1 ≤ 3) := fun e q ci ch a b ep last m hc hm => by
    refine dr_step (fun _ => by rw [spec_DrawMakerPut.j1]) ?_
    refine dr_some (l1PickInt c0 hl _ _ _ hc (by simp) (by simp)) (fun p hp => dr_some (l1Below c0 hl _ _ 3 hp.2 (by omega)) (fun s _ => dr_now ⟨hm, ?_⟩))
    have := hp.1
    simp only [List.mem_cons, List.not_mem_nil, or_false] at this
    show p.1 ≤ 3
    rcases this with h | h | h | h | h <;> rw [h] <;> decide
  have j0 : ∀ (e q ci ch a b ep last : Int) (m : List S_Mark), okC ci → m.length ≤ 8 → Dr (fun k => spec_DrawMakerPut.j0 k e q c0 ci ch a b ep last m) (fun x => x.2.2.2.2.1.length ≤ 8 ∧ x.2.2.2.2.2.1 ≤ 3) := fun e q ci ch a b ep last m hc hm => by
    refine dr_step (fun _ => by rw [spec_DrawMakerPut.j0]) ?_
    refine dr_some (l1Once c0 hl _ _ 4 hc (by omega)) (fun r hr => dr_ite (fun _ => ?_) (fun _ => j1 _ _ _ _ _ _ _ _ _ hr hm))
    exact dr_some (l1Below c0 hl _ _ 3 hr (by omega)) (fun s hs => dr_some (l1Below c0 hl _ _ 3 hs.2.2 (by omega)) (fun t ht => j1 _ _ _ _ _ _ _ _ _ ht.2.2 hm))
  exact dr_bind (l4Draw3 c0 hl ci ch hc) (fun x hx => dr_some (P := fun _ => True) ⟨_, specIn _ _ _, trivial⟩ (fun t _ => dr_ite (fun _ => j0 _ _ _ _ _ _ _ _ _ hx.2 hx.1.1) (fun _ => j0 _ _ _ _ _ _ _ _ _ hx.2 hx.1.1)))
end Go.Proofs.Ythmjhhkheohgfaa.L

/- FnMakers as a plain statement: proved for all arguments. -/
namespace Go.Proofs.Ythmjhhkheohgfaa.Pure
open Go.RowKit Go.Proofs.YthmjhhkheohgfaaW.PrintWords Go.Proofs.YthmjhhkheohgfaaW.PrintLast Go.Proofs.YthmjhhkheohgfaaW.PrintMore Go.Proofs.Ythmjhhkheohgfaa.Q Go.Proofs.Ythmjhhkheohgfaa.L

theorem keepW_le (w : Int) (l : List S_Mark) (h : 0 < w) : ((keepW w l).length : Int) ≤ w := by
  have e : mx w 0 = w := by unfold mx; split <;> omega
  unfold keepW
  rw [e, List.length_drop]
  omega
theorem FnMakers (l : List Int) (_ : l.length ≤ maxLen ∧ ∀ y ∈ l, (Lit.int .u8 y).wf = true) : ∃ k, laws_FnMakers.f k l = some true := by
  refine Ev.rounds (g := fun k => laws_FnMakers.f k l) ?_
  refine ev_some rfl (ev_ite (fun _ => ev_now rfl) (fun h => ?_))
  have hl : l.length ≤ 1048576 := by simp only [decide_eq_true_eq] at h; omega
  obtain ⟨⟨a, b, ep, last, m, w, e, q, o⟩, d1, hm, hw⟩ := drawMakerPut l hl
  obtain ⟨⟨ls, xa, xb, xc, xd, xm⟩, d2, ⟨hs1, hs2⟩, hxm⟩ := drawMakerSet l hl
  obtain ⟨⟨lo, row, who⟩, d3, ho1, ho2⟩ := drawMakerOf l hl
  obtain ⟨⟨ka, kb, ke, kl, km, kw⟩, d4, hk1, hk2⟩ := drawMakerOk l hl
  have hm : m.length ≤ 8 := hm
  have hw : w ≤ 3 := hw
  have hs1 : ls.length ≤ 4 := hs1
  have hxm : xm.length ≤ 8 := hxm
  have ho1 : lo.length ≤ 4 := ho1
  have hk1 : km.length ≤ 8 := hk1
  have e1 := implMakerPut a b ep last m w e q o (by omega) (by omega)
  have e2 := specMakerPut a b ep last m w e q o (by omega) (by omega)
  have hpl := makerPut_len a b ep last m w e q o
  have hfew : ∀ {z : List S_Maker}, fewM 8 z → fewM 2097152 z := fun hz y hy => Nat.le_trans (hz y hy) (by omega)
  have s1 := implMakerSet ⟨xa, xb, xc, xd, xm⟩ ls (by omega) (hfew hs2) (show xm.length ≤ 2097152 by omega)
  have s2 := specMakerSet ⟨xa, xb, xc, xd, xm⟩ ls (by omega) (hfew hs2) (show xm.length ≤ 2097152 by omega)
  have sl := setL_len ⟨xa, xb, xc, xd, xm⟩ ls false
  have sf : fewM 8 (setL ⟨xa, xb, xc, xd, xm⟩ ls false) := setL_few hxm hs2 false
  have so := makerOf_set ⟨xa, xb, xc, xd, xm⟩ ls
  have o1 := implMakerOf lo row who (by omega) (hfew ho2)
  have o2 := specMakerOf lo row who (by omega) (hfew ho2)
  have ol := makerOf_few ho2 row who
  have k1 := implMakerOk ka kb ke kl km kw (by omega)
  have k2 := specMakerOk ka kb ke kl km kw (by omega)
  rw [makerOk_agree ka kb ke kl km kw (by omega) hk2] at k2
  have ask := implMakerAsk a b ep last e q m (by omega)
  have hput : makerPut a b ep last m w e q o = if (makerAsk ep last m e q).1 = 0 then (a, b, e, q, keepW w ((if e > ep then [] else m) ++ [⟨q, o⟩])) else (a, b, ep, last, m) := rfl
  generalize makerPut a b ep last m w e q o = v at e1 e2 hpl hput
  obtain ⟨va, vb, vc, vd, vm⟩ := v
  have hpl : vm.length ≤ m.length + 1 := hpl
  simp only [Bool.false_eq_true, if_false] at sl
  have o3 := implMakerOf (setL ⟨xa, xb, xc, xd, xm⟩ ls false) xa xb (by omega) (hfew sf)
  rw [show makerOf (setL ⟨xa, xb, xc, xd, xm⟩ ls false) xa xb = (xa, xb, xc, xd, xm) from so] at o3
  generalize setL ⟨xa, xb, xc, xd, xm⟩ ls false = b1 at *
  generalize makerOf lo row who = u at o1 o2 ol
  obtain ⟨ua, ub, uc, ud, um⟩ := u
  have ol : um.length ≤ 8 := ol
  refine ev_step (fun _ => by rw [laws_FnMakers.j0]) ?_
  refine ev_bind d1 (ev_bind e1 (ev_bind d2 (ev_bind s1 (ev_bind d3 (ev_bind d4 (ev_bind e2 (ev_bind (sameMaker va vb vc vd vm (by omega)) (ev_pos rfl ?_))))))))
  refine ev_bind s2 (ev_pos rfl (ev_bind o1 (ev_bind o2 (ev_bind (sameMaker ua ub uc ud um (by omega)) (ev_pos rfl (ev_bind k1 (ev_bind k2 ?_)))))))
  refine ev_step (fun _ => by rw [laws_FnMakers.j1]) (ev_neg (by simp) ?_)
  refine ev_step (fun _ => by rw [laws_FnMakers.j2]) ?_
  refine ev_bind o3 (ev_bind (sameMaker xa xb xc xd xm (by omega)) (ev_pos rfl ?_))
  refine ev_step (fun _ => by rw [laws_FnMakers.j3]) (ev_bind ask ?_)
  by_cases hd : (makerAsk ep last m e q).1 = 0
  · rw [if_pos hd] at hput
    simp only [Prod.mk.injEq] at hput
    refine ev_pos hd (ev_ite (fun w0 => ev_neg ?_ (ev_now rfl)) (fun _ => ev_now rfl))
    have := keepW_le w ((if e > ep then [] else m) ++ [⟨q, o⟩]) w0
    rw [← hput.2.2.2.2] at this
    show ¬ (vm.length : Int) > w
    omega
  · rw [if_neg hd] at hput
    simp only [Prod.mk.injEq] at hput
    obtain ⟨rfl, rfl, rfl, rfl, rfl⟩ := hput
    exact ev_neg hd (ev_bind (sameMaker _ _ _ _ _ (by omega)) (ev_now rfl))
end Go.Proofs.Ythmjhhkheohgfaa.Pure

/- The law FnMakers: its statement holds, for all arguments. Made by a program of ours out of the plain theorem and the walk. No condition. -/
namespace Go.Proofs.Ythmjhhkheohgfaa.fnMakers
open Go.ChangeShapes Go.WideShapes Go.ChangeAt Go.RowKit Go.Proofs.YthmjhhkheohgfaaW.PrintWords Go.Proofs.Ythmjhhkheohgfaa.Q Go.Proofs.Ythmjhhkheohgfaa.R
open Go.ChangeMaps (open_string shut_string)
set_option linter.unusedVariables false
theorem own : ownKnob Try.prog.godebug = none := by kernel_rfl
theorem laidOut : laidOutB Try.prog = true := by kernel_rfl
set_option maxRecDepth 100000 in
theorem lifted (os : Os) (started : os.Started) (H : Type) (enc : TypeId × Value → H) :
    ReturnsInHanded {} Try.checked os 7 .any (Rows.fnMakersSpec.pre6 enc Try.prog Try.f7 Rows.fnMakersRow.domain false) (Rows.fnMakersSpec.post enc Try.prog Try.f7 false true false false) := by
  refine returnsInHanded_of_change_sized (C := Try.checked) own started (by kernel_rfl) Try.func7
    (ChangeSpec.witness6 (enc := enc) (C := Try.checked) false ⟨#[], #[.slice none 0 0], []⟩ 8 (by kernel_rfl) (by kernel_rfl) (by kernel_rfl) (by kernel_rfl)) ?_
  intro W base args ds gs before hval0 hW hcnd hsz0 _
  have hval : ∀ (j : Nat) t v, Try.f7.params[j]? = some t → args[j]? = some v → Value.okWide Try.prog W .any base t v := hval0
  have hW' := hW
  obtain ⟨p, q, hA0, hV, rfl, hfz, hnd⟩ := hW
  have hA : DataW.TrodAll enc Try.prog W 0 (fun _ => true) true Try.f7.params.toList args.toList ds p := hA0
  rw [Try.params7] at hA hval
  obtain ⟨v0, vs0, d0, ds0, p0, q0, hargs, rfl, rfl, h0, r0⟩ := trodAll_cons hA
  obtain ⟨rfl, rfl, rfl⟩ := trodAll_nil r0
  obtain rfl : args = #[v0] := by cases args; simp_all
  obtain ⟨rfl, rfl⟩ := trodVars_none hV
  have k0 := h0
  have lt0 : ∀ x ∈ p0, x.block < W.heap.size := by obtain ⟨m, hm⟩ := k0; exact DataW.trod_lt m _ _ _ hm
  obtain ⟨A0, len0, c0, rfl⟩ := okWide_slice Try.underlying22 (hval 0 22 v0 rfl rfl)
  obtain ⟨fuel0, hf0⟩ := h0
  obtain ⟨l0, ⟨A0', c0', hz0, hc0, hr0⟩, w0⟩ := (rd_slice Try.underlying22 (by kernel_rfl) (rd_int Try.underlying5)) H enc W 0 (fun _ => true) true fuel0 _ _ hf0
  obtain ⟨rfl, rfl, rfl⟩ : A0 = A0' ∧ len0 = l0.length ∧ c0 = c0' := by simpa [Value.cells] using hz0
  clear hA0 hval0 hsz0
  obtain ⟨k, hk⟩ := Pure.FnMakers l0 w0
  refine (laws_FnMakers.calls (w := W) (hr0 := hr0) (hc0 := hc0) (h := hk)).mono fun e W' he => ?_
  obtain ⟨rfl, bel0⟩ := he
  have bel : Below W.heap.size W W' := by first | exact bel0 | exact Drawn0.below bel0
  exact ⟨_, rfl, _, _, _, [], _, [], hW', trodAll_mk1 (shut_bool Try.underlying4 _), (trodAll_cons_mk (Below.trod laidOut (by kernel_rfl) (of_decide_eq_true (by kernel_rfl)) k0 bel lt0) trodAll_mk0), rfl, bel.frame _, fun h => by cases h⟩
theorem over : Rows.fnMakersRow.holds Try.pinned (OpenSpec.ofChange Rows.fnMakersSpec) :=
  OpenClaim.holds_of_wide 7 Try.f7 rfl rfl rfl rfl rfl rfl rfl ⟨rfl, rfl, rfl, rfl, rfl⟩ rfl rfl rfl rfl rfl (by kernel_rfl) Try.func7 (by kernel_rfl)
    (of_decide_eq_true (by kernel_rfl)) (by unfold Func.isWrapper; first | (rw [if_pos (by decide +kernel)]; kernel_rfl) | (rw [if_neg (by decide +kernel)]; exact ⟨rfl, rfl⟩))
    (fun os started H enc _ => lifted os started H enc)
end Go.Proofs.Ythmjhhkheohgfaa.fnMakers
namespace Go.Proofs.Ythmjhhkheohgfaa
/-- The row, under a short name, for the claim. -/
theorem fnMakers_holds : Rows.FnMakersSaid := fnMakers.over
#print axioms fnMakers_holds
end Go.Proofs.Ythmjhhkheohgfaa

