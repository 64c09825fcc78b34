/- The law FnBytes holds, for all arguments: its row, and behind it the plain side of what the program and the reference compute. Conditions: those that each theorem states; the row has none. -/
import Derived.Test.YtgkeapbeogmfjaaRows
import Derived.Deep.Slices
import Derived.ChangeArms
import Derived.WideShapes
import Derived.Laws.BitsLemmas
import Derived.WalkKit
import Derived.ProofKit
import Derived.OpenShut
import Derived.ShutString
import Derived.ChangeOld
import Derived.Below
import Derived.SizedLaws
import Derived.Test.YtgkeapbeogmfjaaZFnBytes0
import Derived.Test.YtgkeapbeogmfjaaZFnBytesa
import Derived.Test.YtgkeapbeogmfjaaZFnBytesb
import Derived.Test.YtgkeapbeogmfjaaZFnBytesc
/- What is read as data is of a printed kind: whole numbers, texts, structs of one-cell fields, slices. For the laws' rows. No condition. -/
namespace Go.Proofs.Ytgkeapbeogmfjaa.R
open Go.RowKit Go.Proofs.YtgkeapbeogmfjaaW.PrintWords Go.WideShapes

/-- Whatever is read as data of type t has cells that are of kind d. -/
def Rd {α : Type} (P : Program) (t : TypeId) (d : Kd α) (wf : α → Prop) : Prop :=
  ∀ (H : Type) (enc : TypeId × Value → H) (W : World) (base : Nat) (spare : Nat → Bool) (held : Bool) (fuel : Nat) (cs : List Value) (x : DataW H × List MemPlace),
    DataW.trod enc P W base spare held fuel t cs = some x → ∃ a, d.K W a cs ∧ wf a
theorem rd_int {P : Program} {t : TypeId} {k : IntKind} (ht : P.underlying t = some (.int k)) : Rd P t (Kd.int k) (fun n => (Lit.int k n).wf = true) := by
  intro H enc W base spare held fuel cs x h
  obtain ⟨n, rfl, _, hw⟩ := DataW.trod_int ht h
  exact ⟨n, rfl, hw⟩
theorem rd_string {P : Program} {t : TypeId} (ht : P.underlying t = some .string) : Rd P t Kd.string (fun s => s.size ≤ maxLen) := by
  intro H enc W base spare held fuel cs x h
  obtain ⟨s, rfl, _, hw⟩ := DataW.trod_string ht h
  exact ⟨s, rfl, hw⟩
theorem rd_slice {α : Type} {P : Program} {t e : TypeId} {d : Kd α} {wf : α → Prop} (ht : P.underlying t = some (.slice e)) (hs : P.cellsOf e = d.sz) (hr : Rd P e d wf) :
    Rd P t (Kd.slice e d) (fun xs => xs.length ≤ maxLen ∧ ∀ x ∈ xs, wf x) := by
  intro H enc W base spare held fuel cs x h
  rcases Go.Deep.open_slice ht h with ⟨rfl, _⟩ | ⟨a, len, cap, m, n, D, Pl, rfl, hb, hl, hm, hmm, _, hx⟩
  · exact ⟨[], ⟨none, 0, rfl, Nat.le_refl _, rfl, by simp, fun h0 => absurd h0 (by simp)⟩, by simp, by simp⟩
  · have hml : len ≤ m := by rw [hmm]; split <;> omega
    have key : ∀ i, i < len → ∃ p : α, wf p ∧ ∃ c, c.length = d.sz ∧ d.K W p c ∧ ∀ q u, c[q]? = some u → W.cell? (a.add (i * d.sz + q)) = some u := by
      intro i hi
      obtain ⟨cs', h1, h2⟩ := hx i (by omega)
      obtain ⟨p, hp, hw⟩ := hr H enc W base spare held n cs' _ h2
      obtain ⟨_, hlen, hc⟩ := World.cells?_some h1
      rw [hs] at hlen hc
      refine ⟨p, hw, cs', hlen, hp, fun q u hq => ?_⟩
      have hq' : q < d.sz := by
        have := (List.getElem?_eq_some_iff.1 hq).1
        omega
      rw [← hq, ← hc q hq', Go.Deep.add_add]
    have key2 : ∃ f : Nat → Option α, ∀ i, i < len → ∃ p, f i = some p ∧ wf p ∧ ∃ c, c.length = d.sz ∧ d.K W p c ∧ ∀ q u, c[q]? = some u → W.cell? (a.add (i * d.sz + q)) = some u := by
      classical
      refine ⟨fun i => if hi : i < len then some (Classical.choose (key i hi)) else none, fun i hi => ⟨Classical.choose (key i hi), by simp [hi], Classical.choose_spec (key i hi)⟩⟩
    obtain ⟨f, hf⟩ := key2
    have hlen : ∀ k, k ≤ len → ((List.range k).filterMap f).length = k ∧ ∀ j, j < k → ((List.range k).filterMap f)[j]? = f j := by
      intro k
      induction k with
      | zero => intro _; exact ⟨rfl, fun j hj => absurd hj (by omega)⟩
      | succ k ih =>
        intro hk
        obtain ⟨i1, i2⟩ := ih (by omega)
        obtain ⟨p, hp, _⟩ := hf k (by omega)
        have e : (List.range (k + 1)).filterMap f = (List.range k).filterMap f ++ [p] := by rw [List.range_succ, List.filterMap_append]; simp [hp]
        refine ⟨by rw [e]; simp [i1], fun j hj => ?_⟩
        rw [e]
        rcases Nat.lt_or_ge j k with h1 | h1
        · rw [List.getElem?_append_left (by omega)]; exact i2 j h1
        · obtain rfl : j = k := by omega
          rw [List.getElem?_append_right (by omega), i1]; simp [hp]
    obtain ⟨i1, i2⟩ := hlen len (Nat.le_refl _)
    refine ⟨(List.range len).filterMap f, ⟨some a, cap, by rw [i1], by rw [i1]; exact hl, rfl, by rw [i1]; simp only [maxLen] at hm; omega, fun _ => ⟨a, rfl, fun j p hj => ?_⟩⟩, by rw [i1]; omega, fun p hp => ?_⟩
    · have hj' : j < len := by
        have := (List.getElem?_eq_some_iff.1 hj).1
        omega
      obtain ⟨p', hp', _, hc⟩ := hf j hj'
      rw [i2 j hj', hp'] at hj
      cases hj
      exact hc
    · obtain ⟨i, hi, hfi⟩ := List.mem_filterMap.1 hp
      obtain ⟨p', hp', hw, _⟩ := hf i (by simpa using hi)
      rw [hp'] at hfi
      cases hfi
      exact hw
/-- The fields of a struct, each of one cell, cell by cell. -/
theorem rd_fields {H : Type} {enc : TypeId × Value → H} {P : Program} {W : World} {base : Nat} {spare : Nat → Bool} {held : Bool} {fuel : Nat} {t : TypeId} {fs : Array Field} {cs : List Value} {x : DataW H × List MemPlace}
    (ht : P.underlying t = some (.struct fs)) (h : DataW.trod enc P W base spare held fuel t cs = some x) : cs.length = P.cellsOf t ∧ ∃ n, ∀ (i : Nat) (f : Field), fs[i]? = some f → ∃ y, DataW.trod enc P W base spare held n f.type ((cs.drop f.offset).take (P.cellsOf f.type)) = some y := by
  obtain ⟨xs, n, _, _, hl, hlen, hf⟩ := DataW.trod_struct ht h
  refine ⟨hl, n, fun i f hi => ?_⟩
  have hi' : i < xs.length := by
    rw [hlen]
    exact (Array.getElem?_eq_some_iff.1 hi).1
  exact ⟨xs[i], by rw [hf i f hi, List.getElem?_eq_getElem hi']⟩
end Go.Proofs.Ytgkeapbeogmfjaa.R

/- Small words for plain proofs: what comes to its answer at enough rounds, one step at a time; whole numbers of 64 bits. No condition. -/
namespace Go.Proofs.Ytgkeapbeogmfjaa.L
open Go.RowKit Go.Proofs.YtgkeapbeogmfjaaW.PrintWords Go.Proofs.YtgkeapbeogmfjaaW.PrintLast Go.Proofs.YtgkeapbeogmfjaaW.PrintMore

theorem ev_pos {α : Type} {c : Prop} [Decidable c] {f g : Nat → Option α} {r : α} (h : c) (k : Ev f r) : Ev (fun n => if c then f n else g n) r := by
  simpa only [if_pos h] using k
theorem ev_neg {α : Type} {c : Prop} [Decidable c] {f g : Nat → Option α} {r : α} (h : ¬ c) (k : Ev g r) : Ev (fun n => if c then f n else g n) r := by
  simpa only [if_neg h] using k
theorem ev_ite {α : Type} {c : Prop} [Decidable c] {f g : Nat → Option α} {r : α} (h : c → Ev f r) (k : ¬ c → Ev g r) : Ev (fun n => if c then f n else g n) r := by
  by_cases hc : c
  · exact ev_pos hc (h hc)
  · exact ev_neg hc (k hc)
theorem ev_some {α β : Type} {g : Option α} {f : Nat → α → Option β} {a : α} {r : β} (h : g = some a) (k : Ev (fun n => f n a) r) : Ev (fun n => g.bind (f n)) r := by
  subst h
  exact k
theorem ev_bind {α β : Type} {g : Nat → Option α} {f : Nat → α → Option β} {a : α} {r : β} (h : Ev g a) (k : Ev (fun n => f n a) r) : Ev (fun n => (g n).bind (f n)) r := Ev.bind h k
/-- one round more -/
theorem ev_step {α : Type} {g f : Nat → Option α} {r : α} (h : ∀ k, g (k + 1) = f k) (k : Ev f r) : Ev g r := Ev.step h k
theorem ev_eq {α : Type} {g : Nat → Option α} {r r' : α} (h : r = r') (k : Ev g r) : Ev g r' := h ▸ k
theorem ev_now {α : Type} {r r' : α} (h : r = r') : Ev (fun _ => some r) r' := h ▸ Ev.now r

theorem w64 {x : Int} (h0 : -9223372036854775808 ≤ x) (h1 : x ≤ 9223372036854775807) : wrap64 x = x := by
  unfold wrap64
  omega
theorem rd_eq (xs : List Int) (i : Nat) (h : i < xs.length) : rd xs (i : Int) = xs[i] := by
  simp [rd, List.getD_eq_getElem?_getD, h]
end Go.Proofs.Ytgkeapbeogmfjaa.L

/- The plain side of numbers and texts as bytes: what the program's and the reference's PutNum, GetNum, PutText, GetText come to, and that the two are one. Condition: lists of bytes of at most 2^20 elements. -/
namespace Go.Proofs.Ytgkeapbeogmfjaa.L
open Go.RowKit Go.Proofs.YtgkeapbeogmfjaaW.PrintWords Go.Proofs.YtgkeapbeogmfjaaW.PrintLast Go.Proofs.YtgkeapbeogmfjaaW.PrintMore Go.Proofs.Ytgkeapbeogmfjaa.Q

/-- the bytes of a number, d + 1 of them at the most -/
def enc : Nat → Int → List Int
  | 0, x => [x % 256]
  | d + 1, x => if x > 127 then (x % 128 + 128) :: enc d (x / 128) else [x % 256]
theorem enc_len (d : Nat) (x : Int) : (enc d x).length ≤ d + 1 := by
  induction d generalizing x with
  | zero => simp [enc]
  | succ d ih =>
    unfold enc
    split
    · have := ih (x / 128); simp only [List.length_cons]; omega
    · simp

theorem and127 (x : Int) (h0 : 0 ≤ x) (h1 : x < 4611686018427387904) : Go.bits .and .i64 x 127 = x % 128 :=
  bits_mask .i64 62 (by decide) (fun n a b => by rw [IntKind.wrap_i64]; omega) 7 (by decide) x h0 h1
theorem and127b (x : Int) (h0 : 0 ≤ x) (h1 : x ≤ 255) : Go.bits .and .u8 x 127 = x % 128 :=
  bits_mask .u8 8 (by decide) wraps_u8 7 (by decide) x h0 (by omega)
theorem or128 (x : Int) (h0 : 0 ≤ x) (h1 : x < 128) : Go.bits .or .u8 x 128 = x + 128 := by
  have h := bits_join .u8 8 (by decide) wraps_u8 7 128 x (by decide) (by decide) (by decide) h0 h1 (by omega)
  have hc : Go.bits .or .u8 x 128 = Go.bits .or .u8 128 x := by
    obtain ⟨a, rfl⟩ := Int.eq_ofNat_of_zero_le h0
    have ha : a < 2 ^ 8 := by omega
    show Go.bits .or .u8 (a : Int) ((128 : Nat) : Int) = Go.bits .or .u8 ((128 : Nat) : Int) (a : Int)
    rw [(bits_nat .u8 8 (by decide) wraps_u8 a 128 ha (by decide)).2, (bits_nat .u8 8 (by decide) wraps_u8 128 a (by decide) ha).2, Nat.or_comm]
  rw [hc, h]
  omega
theorem or_join (i : Nat) (x y : Int) (hi : i ≤ 62) (h0 : 0 ≤ x) (h1 : x < 2 ^ i) (h2 : 0 ≤ y) (h3 : y % 2 ^ i = 0) (h4 : y < 4611686018427387904) : Go.bits .or .i64 x y = x + y := by
  have hw : ∀ n : Int, 0 ≤ n → n < 2 ^ 62 → IntKind.i64.wrap n = n := fun n a b => by rw [IntKind.wrap_i64]; omega
  have hp : (2 : Int) ^ i ≤ 2 ^ 62 := by
    have := Nat.pow_le_pow_right (n := 2) (by decide) hi
    exact_mod_cast this
  have h := bits_join .i64 62 (by decide) hw i y x h2 h3 (by omega) h0 h1 (by omega)
  have hc : Go.bits .or .i64 x y = Go.bits .or .i64 y x := by
    obtain ⟨a, rfl⟩ := Int.eq_ofNat_of_zero_le h0
    obtain ⟨b, rfl⟩ := Int.eq_ofNat_of_zero_le h2
    have ha : a < 2 ^ 62 := by omega
    have hb : b < 2 ^ 62 := by omega
    rw [(bits_nat .i64 62 (by decide) hw a b ha hb).2, (bits_nat .i64 62 (by decide) hw b a hb ha).2, Nat.or_comm]
  rw [hc, h]
  omega

theorem specPut_l0 (d : Nat) : ∀ (x : Int) (acc : List Int), 0 ≤ x → x < 128 ^ (d + 1) → x ≤ 9223372036854775807 → acc.length + d < 1000000 → Ev (fun k => spec_PutNum.l0 k x acc) (acc ++ enc d x) := by
  induction d with
  | zero =>
    intro x acc h0 h1 h2 h3
    refine ev_step (fun _ => rfl) (ev_neg (by omega) (ev_pos (by omega) (ev_now ?_)))
    simp [enc]
  | succ d ih =>
    intro x acc h0 h1 h2 h3
    refine ev_step (fun _ => rfl) ?_
    by_cases h : x > 127
    · have hd : wrap64 (Int.tdiv x 128) = x / 128 := by rw [Int.tdiv_eq_ediv_of_nonneg h0]; exact w64 (by omega) (by omega)
      have hm : (wrap64 ((Int.tmod x 128) + 128)) % 256 = x % 128 + 128 := by rw [Int.tmod_eq_emod_of_nonneg h0, w64 (by omega) (by omega)]; omega
      have hp : x / 128 < 128 ^ (d + 1) := by
        rw [Int.pow_succ] at h1
        omega
      refine ev_pos h (ev_pos (by omega) ?_)
      rw [hd, hm]
      refine ev_eq ?_ (ih (x / 128) (acc ++ [x % 128 + 128]) (by omega) hp (by omega) (by simp only [List.length_append, List.length_singleton]; omega))
      simp [enc, h]
    · refine ev_neg h (ev_pos (by omega) (ev_now ?_))
      simp [enc, h]
theorem implPut_l0 (d : Nat) : ∀ (x : Int) (acc : List Int), 0 ≤ x → x < 128 ^ (d + 1) → x < 4611686018427387904 → acc.length + d < 1000000 → Ev (fun k => impl_PutNum.l0 k x acc) (acc ++ enc d x) := by
  induction d with
  | zero =>
    intro x acc h0 h1 h2 h3
    refine ev_step (fun _ => rfl) (ev_neg (by omega) (ev_pos (by omega) (ev_now ?_)))
    simp [enc]
  | succ d ih =>
    intro x acc h0 h1 h2 h3
    refine ev_step (fun _ => rfl) ?_
    by_cases h : x > 127
    · have hm : Go.bits .or .u8 ((Go.bits .and .i64 x 127) % 256) 128 = x % 128 + 128 := by
        rw [and127 x h0 h2, or128 _ (by omega) (by omega)]; omega
      have hp : x / 128 < 128 ^ (d + 1) := by
        rw [Int.pow_succ] at h1
        omega
      refine ev_pos h (ev_pos (by omega) ?_)
      rw [hm]
      refine ev_eq ?_ (ih (x / 128) (acc ++ [x % 128 + 128]) (by omega) hp (by omega) (by simp only [List.length_append, List.length_singleton]; omega))
      simp [enc, h]
    · refine ev_neg h (ev_pos (by omega) (ev_now ?_))
      simp [enc, h]
/-- what PutNum comes to -/
def put (x : Int) : List Int := if 0 ≤ x ∧ x ≤ 2147483647 then enc 4 x else []
theorem specPut (x : Int) : Ev (fun k => spec_PutNum.f k x) (put x) := by
  unfold put
  refine ev_some rfl ?_
  by_cases h : 0 ≤ x ∧ x ≤ 2147483647
  · rw [if_pos h]
    have h1 : spec_l1In.f x 0 2147483647 = some true := by simp [spec_l1In.f, h.1, h.2]
    refine ev_some h1 (ev_pos rfl ?_)
    exact specPut_l0 4 x [] h.1 (by omega) (by omega) (by simp)
  · rw [if_neg h]
    have h1 : spec_l1In.f x 0 2147483647 = some false := by
      unfold spec_l1In.f
      by_cases h0 : x ≥ 0
      · rw [if_pos h0]; simp; omega
      · rw [if_neg h0]
    exact ev_some h1 (ev_neg (by simp) (ev_now rfl))
theorem implPut (x : Int) : Ev (fun k => impl_PutNum.f k x) (put x) := by
  unfold put
  by_cases h : 0 ≤ x ∧ x ≤ 2147483647
  · rw [if_pos h]
    have h1 : impl_within.f x 0 2147483647 = some true := by simp [impl_within.f, h.1, h.2]
    refine ev_some h1 (ev_pos rfl ?_)
    exact implPut_l0 4 x [] h.1 (by omega) (by omega) (by simp)
  · rw [if_neg h]
    have h1 : impl_within.f x 0 2147483647 = some false := by
      unfold impl_within.f
      by_cases h0 : x ≥ 0
      · rw [if_pos h0]; simp; omega
      · rw [if_neg h0]
    exact ev_some h1 (ev_neg (by simp) (ev_now rfl))
theorem put_len (x : Int) : (put x).length ≤ 5 := by
  unfold put
  split
  · exact enc_len 4 x
  · simp

/-- what GetNum comes to: c bytes may come yet, the first of them at p -/
def get : Nat → List Int → Int → Nat → Int → Int × Int × Bool
  | 0, _, _, _, _ => (0, 0, false)
  | c + 1, l, acc, j, p =>
    if p < (l.length : Int) then
      if rd l p < 128 then
        if j > 0 ∧ rd l p = 0 ∨ acc + rd l p * 128 ^ j > 2147483647 then (0, 0, false) else (acc + rd l p * 128 ^ j, p + 1, true)
      else get c l (acc + (rd l p - 128) * 128 ^ j) (j + 1) (p + 1)
    else (0, 0, false)
theorem rd_range {l : List Int} (hl : ∀ x ∈ l, 0 ≤ x ∧ x ≤ 255) (p : Int) : 0 ≤ rd l p ∧ rd l p ≤ 255 := by
  unfold rd
  rw [List.getD_eq_getElem?_getD]
  by_cases h : p.toNat < l.length
  · rw [List.getElem?_eq_getElem h]; exact hl _ (List.getElem_mem h)
  · rw [List.getElem?_eq_none (by omega)]; simp
theorem p128 (j : Nat) : (128 : Int) ^ j = 2 ^ (7 * j) := by rw [Int.pow_mul]; rfl
theorem shl_eq (b : Int) (j : Nat) (h0 : 0 ≤ b) (h1 : b < 128) (hj : j < 5) : shl .i64 b (7 * (j : Int)) = b * 128 ^ j := by
  have e : 7 * (j : Int) = ((7 * j : Nat) : Int) := by omega
  have hp : (128 : Int) ^ j ≤ 128 ^ 4 := by
    have := Nat.pow_le_pow_right (n := 128) (by decide) (show j ≤ 4 by omega)
    exact_mod_cast this
  have hp0 : (0 : Int) < 128 ^ j := Int.pow_pos (by decide)
  have hb : b * 128 ^ j ≤ 127 * 128 ^ 4 := Int.le_trans (Int.mul_le_mul_of_nonneg_right (by omega) (by omega)) (Int.mul_le_mul_of_nonneg_left hp (by decide))
  have hb0 : 0 ≤ b * 128 ^ j := Int.mul_nonneg h0 (by omega)
  unfold shl
  rw [e, Int.toNat_natCast, Nat.min_eq_left (by simp [IntKind.bits]; omega), ← p128, IntKind.wrap_i64]
  omega
theorem or_eq (acc b : Int) (j : Nat) (h0 : 0 ≤ b) (h1 : b < 128) (hj : j < 5) (ha : 0 ≤ acc) (hb : acc < 128 ^ j) : Go.bits .or .i64 acc (b * 128 ^ j) = acc + b * 128 ^ j := by
  have hp : (128 : Int) ^ j ≤ 128 ^ 4 := by
    have := Nat.pow_le_pow_right (n := 128) (by decide) (show j ≤ 4 by omega)
    exact_mod_cast this
  have hp0 : (0 : Int) < 128 ^ j := Int.pow_pos (by decide)
  have hb2 : b * 128 ^ j ≤ 127 * 128 ^ 4 := Int.le_trans (Int.mul_le_mul_of_nonneg_right (by omega) (by omega)) (Int.mul_le_mul_of_nonneg_left hp (by decide))
  have hb0 : 0 ≤ b * 128 ^ j := Int.mul_nonneg h0 (by omega)
  refine or_join (7 * j) acc _ (by omega) ha (by rw [← p128]; exact hb) hb0 ?_ (by omega)
  rw [← p128]
  exact Int.mul_emod_left b _
theorem acc_lt (acc b : Int) (j : Nat) (h1 : b < 128) (hb : acc < 128 ^ j) : acc + b * 128 ^ j < 128 ^ (j + 1) := by
  have hp0 : (0 : Int) < 128 ^ j := Int.pow_pos (by decide)
  have : b * 128 ^ j ≤ 127 * 128 ^ j := Int.mul_le_mul_of_nonneg_right (by omega) (by omega)
  rw [Int.pow_succ]
  omega

theorem implGet_l0 (l : List Int) (hl : ∀ x ∈ l, 0 ≤ x ∧ x ≤ 255) (hn : l.length ≤ 1048576) (a : Int) (ha : 0 ≤ a) (h2 : a ≤ 9223372036854775807) : ∀ (c j : Nat) (acc : Int), c + j = 5 → 0 ≤ acc → acc < 128 ^ j →
    Ev (fun k => impl_GetNum.l0 k l a acc (a + j)) (get c l acc j (a + j)) := by
  intro c
  induction c with
  | zero =>
    intro j acc hc h0 h1
    obtain rfl : j = 5 := by omega
    refine ev_step (fun _ => by rw [impl_GetNum.l0]) ?_
    refine ev_ite (fun h => ?_) (fun h => ?_)
    · have e : decide (a + ((5 : Nat) : Int) < wrap64 (a + 5)) = false := by
        rw [w64 (by omega) (by omega)]
        exact decide_eq_false (by omega)
      rw [e]
      refine ev_step (fun _ => by rw [impl_GetNum.j1]) ?_
      exact ev_neg (by simp) (ev_now rfl)
    · refine ev_step (fun _ => by rw [impl_GetNum.j1]) ?_
      exact ev_neg (by simp) (ev_now rfl)
  | succ c ih =>
    intro j acc hc h0 h1
    refine ev_step (fun _ => by rw [impl_GetNum.l0]) ?_
    refine ev_ite (fun h => ?_) (fun h => ?_)
    · have e1 : decide (a + (j : Int) < wrap64 (a + 5)) = true := by
        rw [w64 (by omega) (by omega)]
        exact decide_eq_true (by omega)
      have e2 : wrap64 (a + (j : Int) - a) = (j : Int) := by rw [w64 (by omega) (by omega)]; omega
      have hb := rd_range hl (a + j)
      have e3 : wrap64 (Go.bits .and .u8 (rd l (a + j)) 127) = rd l (a + j) % 128 := by rw [and127b _ hb.1 hb.2, w64 (by omega) (by omega)]
      have e11 : wrap64 (7 * (j : Int)) = 7 * (j : Int) := w64 (by omega) (by omega)
      have e4 : shl .i64 (rd l (a + j) % 128) (7 * (j : Int)) = (rd l (a + j) % 128) * 128 ^ j := shl_eq _ j (by omega) (by omega) (by omega)
      have e5 : Go.bits .or .i64 acc ((rd l (a + j) % 128) * 128 ^ j) = acc + (rd l (a + j) % 128) * 128 ^ j := or_eq acc _ j (by omega) (by omega) (by omega) h0 h1
      have hp0 : (0 : Int) < 128 ^ j := Int.pow_pos (by decide)
      have e9 : wrap64 (a + (j : Int) + 1) = a + (j : Int) + 1 := w64 (by omega) (by omega)
      rw [e1]
      refine ev_step (fun _ => by rw [impl_GetNum.j1]) ?_
      refine ev_pos rfl (ev_pos (by omega) (ev_pos h ?_))
      simp only [e2, e3, e4, e5, e9, e11]
      clear e1 e2 e3 e4 e5 e9 e11
      refine ev_pos (by omega) ?_
      simp only [get, if_pos h]
      refine ev_ite (fun g => ?_) (fun g => ?_)
      · have e6 : rd l (a + j) % 128 = rd l (a + j) := by omega
        simp only [e6, if_pos g]
        refine ev_ite (fun q => ev_now ?_) (fun q => ?_)
        · rw [if_pos (.inr q)]
        · refine ev_ite (fun q1 => ?_) (fun q1 => ?_)
          · refine ev_ite (fun q2 => ev_now ?_) (fun q2 => ev_now ?_)
            · rw [if_pos (.inl ⟨by omega, q2⟩)]
            · rw [if_neg (by omega)]
          · refine ev_now ?_
            rw [if_neg (by omega)]
      · have e6 : rd l (a + j) % 128 = rd l (a + j) - 128 := by omega
        simp only [e6, if_neg g]
        have e8 : a + (j : Int) + 1 = a + ((j + 1 : Nat) : Int) := by omega
        rw [e8]
        exact ih (j + 1) _ (by omega) (by have := Int.mul_nonneg (show 0 ≤ rd l (a + j) - 128 by omega) (show 0 ≤ (128 : Int) ^ j by omega); omega) (acc_lt _ _ _ (by omega) h1)
    · refine ev_step (fun _ => by rw [impl_GetNum.j1]) ?_
      refine ev_neg (by simp) (ev_now ?_)
      simp only [get, if_neg h]
theorem specGet_l0 (l : List Int) (hl : ∀ x ∈ l, 0 ≤ x ∧ x ≤ 255) (hn : l.length ≤ 1048576) (a : Int) (ha : 0 ≤ a) (h2 : a ≤ 9223372036854775807) : ∀ (c j : Nat) (acc : Int), c + j = 5 → 0 ≤ acc → acc < 128 ^ j →
    Ev (fun k => spec_GetNum.l0 k l a acc (j : Int)) (get c l acc j (a + j)) := by
  intro c
  induction c with
  | zero =>
    intro j acc hc h0 h1
    obtain rfl : j = 5 := by omega
    refine ev_step (fun _ => by rw [spec_GetNum.l0]) ?_
    exact ev_neg (by omega) (ev_now rfl)
  | succ c ih =>
    intro j acc hc h0 h1
    refine ev_step (fun _ => by rw [spec_GetNum.l0]) ?_
    refine ev_pos (by omega) (ev_neg (by omega) ?_)
    have e0 : wrap64 ((l.length : Int) - (j : Int)) = (l.length : Int) - (j : Int) := w64 (by omega) (by omega)
    rw [e0]
    refine ev_step (fun _ => by rw [spec_GetNum.j1]) ?_
    refine ev_ite (fun h => ?_) (fun h => ?_)
    · have h' := of_decide_eq_true h
      refine ev_now ?_
      simp only [get, if_neg (show ¬ a + (j : Int) < (l.length : Int) by omega)]
    · have h' : ¬ a ≥ (l.length : Int) - (j : Int) := fun q => h (decide_eq_true q)
      have hlt : a + (j : Int) < (l.length : Int) := by omega
      have e2 : wrap64 (a + (j : Int)) = a + (j : Int) := w64 (by omega) (by omega)
      have hb := rd_range hl (a + j)
      have e3 : wrap64 (rd l (a + j)) = rd l (a + j) := w64 (by omega) (by omega)
      have e3b : Int.tmod (rd l (a + j)) 128 = rd l (a + j) % 128 := Int.tmod_eq_emod_of_nonneg (by omega)
      have e11 : wrap64 (7 * (j : Int)) = 7 * (j : Int) := w64 (by omega) (by omega)
      have e4 : shl .i64 (rd l (a + j) % 128) (7 * (j : Int)) = (rd l (a + j) % 128) * 128 ^ j := shl_eq _ j (by omega) (by omega) (by omega)
      have e5 : Go.bits .or .i64 acc ((rd l (a + j) % 128) * 128 ^ j) = acc + (rd l (a + j) % 128) * 128 ^ j := or_eq acc _ j (by omega) (by omega) (by omega) h0 h1
      have hp0 : (0 : Int) < 128 ^ j := Int.pow_pos (by decide)
      have e9 : wrap64 (a + (j : Int) + 1) = a + (j : Int) + 1 := w64 (by omega) (by omega)
      have e10 : wrap64 ((j : Int) + 1) = ((j + 1 : Nat) : Int) := by rw [w64 (by omega) (by omega)]; omega
      simp only [e2, e3, e3b, e4, e5, e9, e10, e11]
      clear e0 e2 e3 e3b e4 e5 e9 e10 e11
      refine ev_pos (by omega) ?_
      refine ev_pos hlt ?_
      refine ev_pos (by omega) ?_
      simp only [get, if_pos hlt]
      refine ev_ite (fun g => ?_) (fun g => ?_)
      · have e6 : rd l (a + j) % 128 = rd l (a + j) := by omega
        simp only [e6, if_pos g]
        refine ev_ite (fun q1 => ?_) (fun q1 => ?_)
        · refine ev_ite (fun q2 => ev_now ?_) (fun q2 => ev_ite (fun q => ev_now ?_) (fun q => ev_now ?_))
          · rw [if_pos (.inl ⟨by omega, q2⟩)]
          · rw [if_pos (.inr q)]
          · rw [if_neg (by omega)]
        · refine ev_ite (fun q => ev_now ?_) (fun q => ev_now ?_)
          · rw [if_pos (.inr q)]
          · rw [if_neg (by omega)]
      · have e6 : rd l (a + j) % 128 = rd l (a + j) - 128 := by omega
        simp only [e6, if_neg g]
        have e8 : a + (j : Int) + 1 = a + ((j + 1 : Nat) : Int) := by omega
        rw [e8]
        exact ih (j + 1) _ (by omega) (by have := Int.mul_nonneg (show 0 ≤ rd l (a + j) - 128 by omega) (show 0 ≤ (128 : Int) ^ j by omega); omega) (acc_lt _ _ _ (by omega) h1)
/-- what GetNum comes to -/
def getNum (l : List Int) (a : Int) : Int × Int × Bool := if a < 0 then (0, 0, false) else get 5 l 0 0 a
theorem implGet (l : List Int) (hl : ∀ x ∈ l, 0 ≤ x ∧ x ≤ 255) (hn : l.length ≤ 1048576) (a : Int) (h2 : a ≤ 9223372036854775807) : Ev (fun k => impl_GetNum.f k l a) (getNum l a) := by
  unfold getNum
  refine ev_ite (fun h => ev_now ?_) (fun h => ?_)
  · rw [if_pos h]
  · rw [if_neg h]
    have := implGet_l0 l hl hn a (by omega) h2 5 0 0 rfl (by omega) (by decide)
    simpa using this
theorem specGet (l : List Int) (hl : ∀ x ∈ l, 0 ≤ x ∧ x ≤ 255) (hn : l.length ≤ 1048576) (a : Int) (h2 : a ≤ 9223372036854775807) : Ev (fun k => spec_GetNum.f k l a) (getNum l a) := by
  unfold getNum
  show Ev (fun k => spec_GetNum.l0 k l a 0 0) _
  by_cases h : a < 0
  · rw [if_pos h]
    refine ev_step (fun _ => by rw [spec_GetNum.l0]) ?_
    refine ev_pos (by omega) (ev_pos h ?_)
    refine ev_step (fun _ => by rw [spec_GetNum.j1]) ?_
    exact ev_pos rfl (ev_now rfl)
  · rw [if_neg h]
    have := specGet_l0 l hl hn a (by omega) h2 5 0 0 rfl (by omega) (by decide)
    simpa using this

theorem get_ok (l : List Int) (hl : ∀ x ∈ l, 0 ≤ x ∧ x ≤ 255) : ∀ (c : Nat) (acc : Int) (j : Nat) (p : Int), 0 ≤ p → 0 ≤ acc → (get c l acc j p).2.2 = true →
    0 ≤ (get c l acc j p).1 ∧ (get c l acc j p).1 ≤ 2147483647 ∧ p < (get c l acc j p).2.1 ∧ (get c l acc j p).2.1 ≤ (l.length : Int) := by
  intro c
  induction c with
  | zero => intro acc j p _ _ h; simp [get] at h
  | succ c ih =>
    intro acc j p hp ha h
    have hb := rd_range hl p
    have hp0 : (0 : Int) < 128 ^ j := Int.pow_pos (by decide)
    unfold get at h ⊢
    by_cases h1 : p < (l.length : Int)
    · simp only [if_pos h1] at h ⊢
      by_cases h2 : rd l p < 128
      · simp only [if_pos h2] at h ⊢
        have hm : 0 ≤ rd l p * 128 ^ j := Int.mul_nonneg hb.1 (by omega)
        by_cases h3 : j > 0 ∧ rd l p = 0 ∨ acc + rd l p * 128 ^ j > 2147483647
        · simp [if_pos h3] at h
        · simp only [if_neg h3]
          refine ⟨by omega, by omega, by omega, by omega⟩
      · simp only [if_neg h2] at h ⊢
        have hm : 0 ≤ (rd l p - 128) * 128 ^ j := Int.mul_nonneg (by omega) (by omega)
        have := ih _ _ _ (show 0 ≤ p + 1 by omega) (show 0 ≤ acc + (rd l p - 128) * 128 ^ j by omega) h
        exact ⟨this.1, this.2.1, by omega, this.2.2.2⟩
    · simp [if_neg h1] at h
theorem getNum_ok (l : List Int) (hl : ∀ x ∈ l, 0 ≤ x ∧ x ≤ 255) (a : Int) (h : (getNum l a).2.2 = true) :
    0 ≤ (getNum l a).1 ∧ (getNum l a).1 ≤ 2147483647 ∧ 0 ≤ a ∧ a < (getNum l a).2.1 ∧ (getNum l a).2.1 ≤ (l.length : Int) := by
  unfold getNum at h ⊢
  by_cases h0 : a < 0
  · simp [if_pos h0] at h
  · simp only [if_neg h0] at h ⊢
    have := get_ok l hl 5 0 0 a (by omega) (by omega) h
    exact ⟨this.1, this.2.1, by omega, this.2.2.1, this.2.2.2⟩
/-- what GetText comes to -/
def getText (l : List Int) (a : Int) : ByteArray × Int × Bool :=
  if (getNum l a).2.2 = true then
    if (getNum l a).1 > (l.length : Int) - (getNum l a).2.1 then (⟨#[]⟩, 0, false)
    else (strOfNums ((l.take ((getNum l a).2.1 + (getNum l a).1).toNat).drop (getNum l a).2.1.toNat), (getNum l a).2.1 + (getNum l a).1, true)
  else (⟨#[]⟩, 0, false)
theorem text_tail (l : List Int) (hl : ∀ x ∈ l, 0 ≤ x ∧ x ≤ 255) (hn : l.length ≤ 1048576) (a : Int) :
    Ev (fun _ => if (getNum l a).2.2 = true then (if (getNum l a).1 > (wrap64 ((l.length : Int) - (getNum l a).2.1)) then (some ((⟨#[]⟩ : ByteArray), (0 : Int), false)) else (if 0 ≤ (getNum l a).2.1 then (if (getNum l a).2.1 ≤ (wrap64 ((getNum l a).2.1 + (getNum l a).1)) then (if (wrap64 ((getNum l a).2.1 + (getNum l a).1)) ≤ (l.length : Int) then (some (strOfNums ((l.take ((wrap64 ((getNum l a).2.1 + (getNum l a).1)) : Int).toNat).drop ((getNum l a).2.1 : Int).toNat), wrap64 ((getNum l a).2.1 + (getNum l a).1), true)) else (none)) else (none)) else (none))) else (some ((⟨#[]⟩ : ByteArray), 0, false))) (getText l a) := by
  unfold getText
  refine ev_ite (fun h => ?_) (fun h => ev_now ?_)
  · rw [if_pos h]
    have g := getNum_ok l hl a h
    have e1 : wrap64 ((l.length : Int) - (getNum l a).2.1) = (l.length : Int) - (getNum l a).2.1 := w64 (by omega) (by omega)
    have e2 : wrap64 ((getNum l a).2.1 + (getNum l a).1) = (getNum l a).2.1 + (getNum l a).1 := w64 (by omega) (by omega)
    simp only [e1, e2]
    refine ev_ite (fun q => ev_now ?_) (fun q => ?_)
    · rw [if_pos q]
    · rw [if_neg q]
      exact ev_pos (by omega) (ev_pos (by omega) (ev_pos (by omega) (ev_now rfl)))
  · rw [if_neg h]
theorem implText (l : List Int) (hl : ∀ x ∈ l, 0 ≤ x ∧ x ≤ 255) (hn : l.length ≤ 1048576) (a : Int) (h2 : a ≤ 9223372036854775807) : Ev (fun k => impl_GetText.f k l a) (getText l a) :=
  ev_bind (implGet l hl hn a h2) (text_tail l hl hn a)
theorem specText (l : List Int) (hl : ∀ x ∈ l, 0 ≤ x ∧ x ≤ 255) (hn : l.length ≤ 1048576) (a : Int) (h2 : a ≤ 9223372036854775807) : Ev (fun k => spec_GetText.f k l a) (getText l a) :=
  ev_bind (specGet l hl hn a h2) (text_tail l hl hn a)

end Go.Proofs.Ytgkeapbeogmfjaa.L

/- What is drawn: a draw comes to its end, and its answer keeps to bounds. Condition: a cursor that stands at no place below 0. -/
set_option linter.unusedVariables false
namespace Go.Proofs.Ytgkeapbeogmfjaa.L
open Go.RowKit Go.Proofs.YtgkeapbeogmfjaaW.PrintWords Go.Proofs.YtgkeapbeogmfjaaW.PrintLast Go.Proofs.YtgkeapbeogmfjaaW.PrintMore Go.Proofs.Ytgkeapbeogmfjaa.Q

/-- it comes to an answer, at enough rounds, of which P is true -/
def Dr {α : Type} (f : Nat → Option α) (P : α → Prop) : Prop := ∃ r, Ev f r ∧ P r
theorem dr_now {α : Type} {r : α} {P : α → Prop} (h : P r) : Dr (fun _ => some r) P := ⟨r, ev_now rfl, h⟩
theorem dr_of {α : Type} {f : Nat → Option α} {r : α} {P : α → Prop} (h : Ev f r) (k : P r) : Dr f P := ⟨r, h, k⟩
theorem dr_bind {α β : Type} {g : Nat → Option α} {f : Nat → α → Option β} {P : α → Prop} {Q : β → Prop} (h : Dr g P) (k : ∀ a, P a → Dr (fun n => f n a) Q) : Dr (fun n => (g n).bind (f n)) Q := by
  obtain ⟨a, ha, pa⟩ := h
  obtain ⟨b, hb, qb⟩ := k a pa
  exact ⟨b, ev_bind ha hb, qb⟩
theorem dr_some {α β : Type} {g : Option α} {f : Nat → α → Option β} {P : α → Prop} {Q : β → Prop} (h : ∃ a, g = some a ∧ P a) (k : ∀ a, P a → Dr (fun n => f n a) Q) : Dr (fun n => g.bind (f n)) Q := by
  obtain ⟨a, rfl, pa⟩ := h
  exact k a pa
theorem dr_eq {α β : Type} {g : Option α} {f : Nat → α → Option β} {a : α} {Q : β → Prop} (h : g = some a) (k : Dr (fun n => f n a) Q) : Dr (fun n => g.bind (f n)) Q := by
  subst h
  exact k
theorem dr_pos {α : Type} {c : Prop} [Decidable c] {f g : Nat → Option α} {P : α → Prop} (h : c) (k : Dr f P) : Dr (fun n => if c then f n else g n) P := by
  simpa only [if_pos h] using k
theorem dr_neg {α : Type} {c : Prop} [Decidable c] {f g : Nat → Option α} {P : α → Prop} (h : ¬ c) (k : Dr g P) : Dr (fun n => if c then f n else g n) P := by
  simpa only [if_neg h] using k
theorem dr_ite {α : Type} {c : Prop} [Decidable c] {f g : Nat → Option α} {P : α → Prop} (h : c → Dr f P) (k : ¬ c → Dr g P) : Dr (fun n => if c then f n else g n) P := by
  by_cases hc : c
  · exact dr_pos hc (h hc)
  · exact dr_neg hc (k hc)
theorem dr_step {α : Type} {g f : Nat → Option α} {P : α → Prop} (h : ∀ k, g (k + 1) = f k) (k : Dr f P) : Dr g P := by
  obtain ⟨r, hr, p⟩ := k
  exact ⟨r, ev_step h hr, p⟩
theorem and255 (n : Int) : Go.bits .and .i64 n 255 = n % 256 := by
  have h255 : (BitVec.ofInt 64 255).toNat = 2 ^ 8 - 1 := by decide
  have key : (BitVec.ofInt 64 n &&& BitVec.ofInt 64 255).toNat = (n % ((2 ^ 64 : Nat) : Int)).toNat % 2 ^ 8 := by
    rw [BitVec.toNat_and, BitVec.toNat_ofInt, h255, Nat.and_two_pow_sub_one_eq_mod]
  show IntKind.i64.wrap ((BitVec.ofInt 64 n &&& BitVec.ofInt 64 255).toNat : Nat) = n % 256
  rw [key, IntKind.wrap_i64]
  omega
/-- a cursor's place is one that it may stand at -/
def okC (i : Int) : Prop := 0 ≤ i ∧ i ≤ 1048576
theorem okC_zero : okC 0 := by unfold okC; omega
theorem l1New_l0 (l : List Int) (hl : l.length ≤ 1048576) : ∀ (d i : Nat) (h : Int), i + d = l.length → Dr (fun k => spec_l1New.l0 k l h (i : Int)) (fun r => r.1 = l ∧ okC r.2.1) := by
  intro d
  induction d with
  | zero => intro i h q; exact dr_step (fun _ => rfl) (dr_neg (by omega) (dr_now ⟨rfl, okC_zero⟩))
  | succ d ih =>
    intro i h q
    have e : wrap64 ((i : Int) + 1) = ((i + 1 : Nat) : Int) := by rw [w64 (by omega) (by omega)]; omega
    refine dr_step (fun _ => rfl) (dr_pos (by omega) (dr_ite (fun _ => dr_pos (by omega) ?_) (fun _ => dr_now ⟨rfl, okC_zero⟩)))
    rw [e]
    exact ih (i + 1) _ (by omega)
theorem l1New (l : List Int) (hl : l.length ≤ 1048576) : Dr (fun k => spec_l1New.f k l) (fun r => r.1 = l ∧ okC r.2.1) := l1New_l0 l hl l.length 0 _ (by omega)
theorem l1Byte (l : List Int) (hl : l.length ≤ 1048576) (i h : Int) (hi : okC i) : ∃ r, spec_l1Byte.f l i h = some r ∧ 0 ≤ r.1 ∧ r.1 ≤ 255 ∧ okC r.2.1 := by
  unfold okC at hi
  unfold spec_l1Byte.f
  simp only [and255]
  split
  · rw [if_pos hi.1]
    refine ⟨_, rfl, ?_, ?_, ?_⟩
    · show 0 ≤ _ % 256
      omega
    · show _ % 256 ≤ 255
      omega
    · show 0 ≤ wrap64 (i + 1) ∧ wrap64 (i + 1) ≤ 1048576
      rw [w64 (by omega) (by omega)]
      omega
  · refine ⟨_, rfl, ?_, ?_, hi⟩
    · show 0 ≤ _ % 256
      omega
    · show _ % 256 ≤ 255
      omega
theorem l1Below (l : List Int) (hl : l.length ≤ 1048576) (i h n : Int) (hi : okC i) (hn : n ≤ 2147483647) : ∃ r, spec_l1Below.f l i h n = some r ∧ 0 ≤ r.1 ∧ (0 < n → r.1 < n) ∧ okC r.2.1 := by
  unfold spec_l1Below.f
  split
  · exact ⟨_, rfl, by show (0 : Int) ≤ 0; omega, fun _ => by omega, hi⟩
  · split
    · obtain ⟨r, hr, h0, h1, h2⟩ := l1Byte l hl i h hi
      rw [hr, Option.bind_some, if_neg (by omega)]
      refine ⟨_, rfl, ?_, fun _ => ?_, h2⟩
      · show 0 ≤ Int.tmod r.1 n
        rw [Int.tmod_eq_emod_of_nonneg h0]
        exact Int.emod_nonneg _ (by omega)
      · show Int.tmod r.1 n < n
        rw [Int.tmod_eq_emod_of_nonneg h0]
        exact Int.emod_lt_of_pos _ (by omega)
    · obtain ⟨a, ha, a0, a1, ai⟩ := l1Byte l hl i h hi
      obtain ⟨b, hb, b0, b1, bi⟩ := l1Byte l hl a.2.1 a.2.2 ai
      obtain ⟨c, hc, c0, c1, ci⟩ := l1Byte l hl b.2.1 b.2.2 bi
      obtain ⟨d, hd, d0, d1, di⟩ := l1Byte l hl c.2.1 c.2.2 ci
      rw [ha, Option.bind_some, hb, Option.bind_some, hc, Option.bind_some, hd, Option.bind_some, if_neg (by omega)]
      have e1 : wrap64 (a.1 * 16777216) = a.1 * 16777216 := w64 (by omega) (by omega)
      have e2 : wrap64 (b.1 * 65536) = b.1 * 65536 := w64 (by omega) (by omega)
      have e3 : wrap64 (c.1 * 256) = c.1 * 256 := w64 (by omega) (by omega)
      have e4 : wrap64 (a.1 * 16777216 + b.1 * 65536) = a.1 * 16777216 + b.1 * 65536 := w64 (by omega) (by omega)
      have e5 : wrap64 (a.1 * 16777216 + b.1 * 65536 + c.1 * 256) = a.1 * 16777216 + b.1 * 65536 + c.1 * 256 := w64 (by omega) (by omega)
      have e6 : wrap64 (a.1 * 16777216 + b.1 * 65536 + c.1 * 256 + d.1) = a.1 * 16777216 + b.1 * 65536 + c.1 * 256 + d.1 := w64 (by omega) (by omega)
      rw [e1, e2, e3, e4, e5, e6]
      refine ⟨_, rfl, ?_, fun _ => ?_, di⟩
      · show 0 ≤ Int.tmod _ n
        rw [Int.tmod_eq_emod_of_nonneg (by omega)]
        exact Int.emod_nonneg _ (by omega)
      · show Int.tmod _ n < n
        rw [Int.tmod_eq_emod_of_nonneg (by omega)]
        exact Int.emod_lt_of_pos _ (by omega)
theorem l1Once (l : List Int) (hl : l.length ≤ 1048576) (i h n : Int) (hi : okC i) (hn : n ≤ 2147483647) : ∃ r, spec_l1Once.f l i h n = some r ∧ okC r.2.1 := by
  obtain ⟨r, hr, _, _, h2⟩ := l1Below l hl i h n hi hn
  unfold spec_l1Once.f
  rw [hr, Option.bind_some]
  exact ⟨_, rfl, h2⟩
theorem l1PickInt (l : List Int) (hl : l.length ≤ 1048576) (i h : Int) (xs : List Int) (hi : okC i) (h0 : 0 < xs.length) (hn : xs.length ≤ 1048576) : ∃ r, spec_l1PickInt.f l i h xs = some r ∧ r.1 ∈ xs ∧ okC r.2.1 := by
  obtain ⟨r, hr, r0, r1, h2⟩ := l1Below l hl i h (xs.length : Int) hi (by omega)
  have r1 := r1 (by omega)
  unfold spec_l1PickInt.f
  rw [hr, Option.bind_some, if_pos r0, if_pos r1]
  refine ⟨_, rfl, ?_, h2⟩
  obtain ⟨j, hj⟩ := Int.eq_ofNat_of_zero_le r0
  show rd xs r.1 ∈ xs
  rw [hj]
  have : j < xs.length := by omega
  show rd xs (j : Int) ∈ xs
  rw [rd_eq xs j this]
  exact List.getElem_mem _
end Go.Proofs.Ytgkeapbeogmfjaa.L

/- The plain side of numbers within bounds: program and reference come to one answer. No condition. -/
namespace Go.Proofs.Ytgkeapbeogmfjaa.L
open Go.RowKit Go.Proofs.YtgkeapbeogmfjaaW.PrintWords Go.Proofs.YtgkeapbeogmfjaaW.PrintLast Go.Proofs.YtgkeapbeogmfjaaW.PrintMore Go.Proofs.Ytgkeapbeogmfjaa.Q

end Go.Proofs.Ytgkeapbeogmfjaa.L

/- The plain side of right texts: program and reference come to one answer. Condition: texts of at most 2^63 - 1 bytes, as any text that is read. -/
namespace Go.Proofs.Ytgkeapbeogmfjaa.L
open Go.RowKit Go.Proofs.YtgkeapbeogmfjaaW.PrintWords Go.Proofs.YtgkeapbeogmfjaaW.PrintLast Go.Proofs.YtgkeapbeogmfjaaW.PrintMore Go.Proofs.Ytgkeapbeogmfjaa.Q

/-- may a byte stand in a text -/
def okB (b : Int) : Prop := 97 ≤ b ∧ b ≤ 122 ∨ 48 ≤ b ∧ b ≤ 57 ∨ b = 32
instance (b : Int) : Decidable (okB b) := by unfold okB; infer_instance
end Go.Proofs.Ytgkeapbeogmfjaa.L

/- The plain side of commands that are right: program and reference come to one answer. Condition: texts of at most 2^63 - 1 bytes. -/
namespace Go.Proofs.Ytgkeapbeogmfjaa.L
open Go.RowKit Go.Proofs.YtgkeapbeogmfjaaW.PrintWords Go.Proofs.YtgkeapbeogmfjaaW.PrintLast Go.Proofs.YtgkeapbeogmfjaaW.PrintMore Go.Proofs.Ytgkeapbeogmfjaa.Q

end Go.Proofs.Ytgkeapbeogmfjaa.L

/- The plain side of reading numbers, texts and commands one behind the other: program and reference come to one answer. Condition: bytes of at most 2^20, as they are read. -/
namespace Go.Proofs.Ytgkeapbeogmfjaa.L
open Go.RowKit Go.Proofs.YtgkeapbeogmfjaaW.PrintWords Go.Proofs.YtgkeapbeogmfjaaW.PrintLast Go.Proofs.YtgkeapbeogmfjaaW.PrintMore Go.Proofs.Ytgkeapbeogmfjaa.Q

/-- bytes as they are read -/
def okL7 (l : List Int) : Prop := (∀ x ∈ l, 0 ≤ x ∧ x ≤ 255) ∧ l.length ≤ 1048576
/-- a text at a place, while all was there -/
def text (l : List Int) (a : Int) (ok : Bool) : ByteArray × Int × Bool := if (getText l a).2.2 = true ∧ ok = true then ((getText l a).1, (getText l a).2.1, true) else (⟨#[]⟩, a, false)
theorem getText_le (l : List Int) (h : okL7 l) (a : Int) (q : (getText l a).2.2 = true) : 0 ≤ (getText l a).2.1 ∧ (getText l a).2.1 ≤ (l.length : Int) := by
  unfold getText at q ⊢
  by_cases h1 : (getNum l a).2.2 = true
  · have g := getNum_ok l h.1 a h1
    simp only [if_pos h1] at q ⊢
    by_cases h2 : (getNum l a).1 > (l.length : Int) - (getNum l a).2.1
    · simp [if_pos h2] at q
    · simp only [if_neg h2]
      constructor
      · omega
      · omega
  · simp [if_neg h1] at q
theorem strOfNums_size (xs : List Int) : (strOfNums xs).size = xs.length := by simp [strOfNums, ByteArray.size]
theorem text_size (l : List Int) (h : okL7 l) (a : Int) (ok : Bool) : (text l a ok).1.size ≤ 1048576 := by
  have h2 := h.2
  unfold text
  split
  · unfold getText
    split
    · split
      · simp [ByteArray.size]
      · show (strOfNums _).size ≤ _
        rw [strOfNums_size, List.length_drop, List.length_take]
        omega
    · simp [ByteArray.size]
  · simp [ByteArray.size]
end Go.Proofs.Ytgkeapbeogmfjaa.L

/- The plain side of a command's bytes: program and reference come to one list. Condition: lists of at most 2^16 numbers, texts of at most 2^20 bytes. -/
namespace Go.Proofs.Ytgkeapbeogmfjaa.L
open Go.RowKit Go.Proofs.YtgkeapbeogmfjaaW.PrintWords Go.Proofs.YtgkeapbeogmfjaaW.PrintLast Go.Proofs.YtgkeapbeogmfjaaW.PrintMore Go.Proofs.Ytgkeapbeogmfjaa.Q

/-- a text's bytes, behind their count -/
def putText (s : ByteArray) : List Int := put (s.size : Int) ++ bytesOf s
theorem putText_len (s : ByteArray) : (putText s).length ≤ s.size + 5 := by
  have := put_len (s.size : Int)
  unfold putText
  rw [List.length_append, bytesOf_length]
  omega
theorem specPutText (s : ByteArray) (hs : s.size ≤ 1048576) : Ev (fun k => spec_PutText.f k s) (putText s) := by
  have := put_len (s.size : Int)
  exact ev_bind (specPut _) (ev_pos (by omega) (ev_now rfl))
theorem implPutText (s : ByteArray) (hs : s.size ≤ 1048576) : Ev (fun k => impl_PutText.f k s) (putText s) := by
  have := put_len (s.size : Int)
  exact ev_bind (implPut _) (ev_pos (by omega) (ev_now rfl))
end Go.Proofs.Ytgkeapbeogmfjaa.L

/- Numbers and texts, written and read again: what is written is read as it was, what is read was written so. No program in sight but the plain words for it. -/
namespace Go.Proofs.Ytgkeapbeogmfjaa.L
open Go.RowKit Go.Proofs.YtgkeapbeogmfjaaW.PrintWords Go.Proofs.YtgkeapbeogmfjaaW.PrintLast Go.Proofs.YtgkeapbeogmfjaaW.PrintMore Go.Proofs.Ytgkeapbeogmfjaa.Q

theorem at_drop {l : List Int} {p : Nat} {y : Int} {t : List Int} (h : l.drop p = y :: t) : p < l.length ∧ rd l (p : Int) = y ∧ l.drop (p + 1) = t := by
  have hp : p < l.length := by
    rcases Nat.lt_or_ge p l.length with q | q
    · exact q
    · rw [List.drop_eq_nil_of_le q] at h
      cases h
  rw [List.drop_eq_getElem_cons hp] at h
  injection h with h1 h2
  exact ⟨hp, by rw [rd_eq l p hp]; exact h1, h2⟩
theorem split128 (x P : Int) : (x % 128) * P + (x / 128) * (P * 128) = x * P := by
  have h : x = x % 128 + 128 * (x / 128) := by omega
  calc (x % 128) * P + (x / 128) * (P * 128) = (x % 128 + 128 * (x / 128)) * P := by
        rw [Int.add_mul, Int.mul_comm P 128, ← Int.mul_assoc, Int.mul_comm (x / 128) 128]
    _ = x * P := by rw [← h]
/-- what is written is read -/
theorem get_enc (l : List Int) : ∀ (d c : Nat) (x acc : Int) (j p : Nat) (t : List Int), d < c → 0 ≤ x → x < 128 ^ (d + 1) → (0 < j → 0 < x) → acc + x * 128 ^ j ≤ 2147483647 → l.drop p = enc d x ++ t →
    get c l acc j (p : Int) = (acc + x * 128 ^ j, ((p + (enc d x).length : Nat) : Int), true) := by
  have last : ∀ (c : Nat) (x acc : Int) (j p : Nat) (t : List Int), 0 ≤ x → x < 128 → (0 < j → 0 < x) → acc + x * 128 ^ j ≤ 2147483647 → l.drop p = x % 256 :: t → get (c + 1) l acc j (p : Int) = (acc + x * 128 ^ j, ((p + 1 : Nat) : Int), true) := by
    intro c x acc j p t h0 h1 hj hs hd
    obtain ⟨hp, hr, _⟩ := at_drop hd
    have e : x % 256 = x := by omega
    rw [e] at hr
    unfold get
    rw [hr, if_pos (by omega), if_pos h1, if_neg (by omega)]
    rfl
  intro d
  induction d with
  | zero =>
    intro c x acc j p t hc h0 h1 hj hs hd
    obtain ⟨c, rfl⟩ : ∃ e, c = e + 1 := ⟨c - 1, by omega⟩
    exact last c x acc j p t h0 (by simpa using h1) hj hs hd
  | succ d ih =>
    intro c x acc j p t hc h0 h1 hj hs hd
    obtain ⟨c, rfl⟩ : ∃ e, c = e + 1 := ⟨c - 1, by omega⟩
    by_cases q : x > 127
    · have e : enc (d + 1) x = (x % 128 + 128) :: enc d (x / 128) := by rw [enc, if_pos q]
      rw [e] at hd ⊢
      obtain ⟨hp, hr, ht⟩ := at_drop hd
      have hx : x / 128 < 128 ^ (d + 1) := by
        rw [Int.pow_succ] at h1
        omega
      have hsum : acc + x % 128 * 128 ^ j + x / 128 * 128 ^ (j + 1) = acc + x * 128 ^ j := by
        rw [Int.pow_succ, Int.add_assoc, split128]
      have := ih c (x / 128) (acc + x % 128 * 128 ^ j) (j + 1) (p + 1) t (by omega) (by omega) hx (fun _ => by omega) (by omega) ht
      unfold get
      rw [hr, if_pos (by omega), if_neg (by omega)]
      have e2 : x % 128 + 128 - 128 = x % 128 := by omega
      have e3 : (p : Int) + 1 = ((p + 1 : Nat) : Int) := by omega
      rw [e2, e3, this, hsum]
      simp only [List.length_cons]
      have e4 : p + 1 + (enc d (x / 128)).length = p + ((enc d (x / 128)).length + 1) := by omega
      rw [e4]
    · have e : enc (d + 1) x = [x % 256] := by rw [enc, if_neg q]
      rw [e] at hd ⊢
      exact last c x acc j p t h0 (by omega) hj hs hd
theorem getNum_put (l : List Int) (x : Int) (p : Nat) (t : List Int) (h0 : 0 ≤ x) (h1 : x ≤ 2147483647) (hd : l.drop p = put x ++ t) : getNum l (p : Int) = (x, ((p + (put x).length : Nat) : Int), true) := by
  unfold put at hd ⊢
  rw [if_pos ⟨h0, h1⟩] at hd ⊢
  unfold getNum
  rw [if_neg (by omega), get_enc l 4 5 x 0 0 p t (by omega) h0 (by omega) (fun q => absurd q (by omega)) (by omega) hd]
  simp
/-- what is read was written -/
theorem enc_get (l : List Int) (hl : ∀ x ∈ l, 0 ≤ x ∧ x ≤ 255) : ∀ (d : Nat) (acc : Int) (j p : Nat), (get (d + 1) l acc j (p : Int)).2.2 = true →
    ∃ x, 0 ≤ x ∧ (0 < j → 0 < x) ∧ (get (d + 1) l acc j (p : Int)).1 = acc + x * 128 ^ j ∧ (get (d + 1) l acc j (p : Int)).2.1 = ((p + (enc d x).length : Nat) : Int) ∧ ∃ t, l.drop p = enc d x ++ t := by
  have here : ∀ (d : Nat) (acc : Int) (j p : Nat), p < l.length → rd l (p : Int) < 128 → (get (d + 1) l acc j (p : Int)).2.2 = true → (0 < j → 0 < rd l (p : Int)) ∧ get (d + 1) l acc j (p : Int) = (acc + rd l (p : Int) * 128 ^ j, (p : Int) + 1, true) ∧ l.drop p = [rd l (p : Int) % 256] ++ l.drop (p + 1) := by
    intro d acc j p hp hb h
    have hr := rd_range hl (p : Int)
    unfold get at h ⊢
    rw [if_pos (by omega), if_pos hb] at h ⊢
    by_cases c : j > 0 ∧ rd l (p : Int) = 0 ∨ acc + rd l (p : Int) * 128 ^ j > 2147483647
    · rw [if_pos c] at h
      cases h
    · rw [if_neg c]
      refine ⟨fun q => by omega, rfl, ?_⟩
      have e : rd l (p : Int) % 256 = l[p] := by rw [rd_eq l p hp] at hr ⊢; omega
      rw [e, List.drop_eq_getElem_cons hp]
      rfl
  intro d
  induction d with
  | zero =>
    intro acc j p h
    have hp : p < l.length := by
      rcases Nat.lt_or_ge p l.length with q | q
      · exact q
      · unfold get at h; rw [if_neg (by omega)] at h; cases h
    have hr := rd_range hl (p : Int)
    by_cases hb : rd l (p : Int) < 128
    · obtain ⟨h1, h2, h3⟩ := here 0 acc j p hp hb h
      rw [h2]
      exact ⟨rd l (p : Int), hr.1, h1, rfl, by simp [enc], _, h3⟩
    · unfold get at h
      rw [if_pos (by omega), if_neg hb] at h
      cases h
  | succ d ih =>
    intro acc j p h
    have hp : p < l.length := by
      rcases Nat.lt_or_ge p l.length with q | q
      · exact q
      · unfold get at h; rw [if_neg (by omega)] at h; cases h
    have hr := rd_range hl (p : Int)
    by_cases hb : rd l (p : Int) < 128
    · obtain ⟨h1, h2, h3⟩ := here (d + 1) acc j p hp hb h
      have e : enc (d + 1) (rd l (p : Int)) = [rd l (p : Int) % 256] := by rw [enc, if_neg (by omega)]
      rw [h2]
      exact ⟨rd l (p : Int), hr.1, h1, rfl, by rw [e]; simp, _, by rw [e]; exact h3⟩
    · have e3 : (p : Int) + 1 = ((p + 1 : Nat) : Int) := by omega
      have eg : get (d + 1 + 1) l acc j (p : Int) = get (d + 1) l (acc + (rd l (p : Int) - 128) * 128 ^ j) (j + 1) ((p + 1 : Nat) : Int) := by
        rw [get, if_pos (by omega), if_neg hb, e3]
      rw [eg] at h ⊢
      obtain ⟨x, h0, hj, h1, h2, t, h3⟩ := ih _ _ _ h
      have hx := hj (by omega)
      have q1 : (rd l (p : Int) - 128 + 128 * x) % 128 = rd l (p : Int) - 128 := by omega
      have q2 : (rd l (p : Int) - 128 + 128 * x) / 128 = x := by omega
      have e : enc (d + 1) (rd l (p : Int) - 128 + 128 * x) = rd l (p : Int) :: enc d x := by
        rw [enc, if_pos (by omega), q1, q2]
        congr 1
        omega
      refine ⟨rd l (p : Int) - 128 + 128 * x, by omega, fun _ => by omega, ?_, ?_, t, ?_⟩
      · rw [h1, Int.pow_succ, Int.add_assoc]
        have := split128 (rd l (p : Int) - 128 + 128 * x) (128 ^ j)
        rw [q1, q2] at this
        rw [this]
      · rw [h2, e]
        simp only [List.length_cons]
        omega
      · rw [e, List.drop_eq_getElem_cons hp, h3, rd_eq l p hp]
        rfl
theorem take_back {l a t : List Int} {p : Nat} (h : l.drop p = a ++ t) : (l.take (p + a.length)).drop p = a := by
  rw [List.drop_take, h, Nat.add_sub_cancel_left, List.take_left']
  rfl
theorem put_getNum (l : List Int) (hl : ∀ x ∈ l, 0 ≤ x ∧ x ≤ 255) (p : Nat) (h : (getNum l (p : Int)).2.2 = true) : (getNum l (p : Int)).2.1 = ((p + (put (getNum l (p : Int)).1).length : Nat) : Int) ∧ ∃ t, l.drop p = put (getNum l (p : Int)).1 ++ t := by
  have g := getNum_ok l hl (p : Int) h
  have e : getNum l (p : Int) = get 5 l 0 0 (p : Int) := by unfold getNum; rw [if_neg (by omega)]
  have ep : put (getNum l (p : Int)).1 = enc 4 (getNum l (p : Int)).1 := by unfold put; rw [if_pos ⟨g.1, g.2.1⟩]
  rw [ep]
  rw [e] at h ⊢
  obtain ⟨x, h0, _, h1, h2, t, h3⟩ := enc_get l hl 4 0 0 p h
  have ex : (get 5 l 0 0 (p : Int)).1 = x := by rw [h1]; simp
  rw [ex]
  exact ⟨h2, t, h3⟩
end Go.Proofs.Ytgkeapbeogmfjaa.L

/- Texts and commands, written and read again: what is written is read as it was, what is read was written so. No program in sight but the plain words for it. -/
namespace Go.Proofs.Ytgkeapbeogmfjaa.L
open Go.RowKit Go.Proofs.YtgkeapbeogmfjaaW.PrintWords Go.Proofs.YtgkeapbeogmfjaaW.PrintLast Go.Proofs.YtgkeapbeogmfjaaW.PrintMore Go.Proofs.Ytgkeapbeogmfjaa.Q

theorem str_bytes (s : ByteArray) : strOfNums (bytesOf s) = s := by
  unfold strOfNums bytesOf
  rw [List.map_map]
  have e : ((fun n : Int => UInt8.ofNat n.toNat) ∘ fun b : UInt8 => (b.toNat : Int)) = id := by
    funext b
    simp
  rw [e, List.map_id]
theorem bytes_str (xs : List Int) (h : ∀ x ∈ xs, 0 ≤ x ∧ x ≤ 255) : bytesOf (strOfNums xs) = xs := by
  unfold strOfNums bytesOf
  rw [List.map_map]
  have : ∀ x ∈ xs, ((fun b : UInt8 => (b.toNat : Int)) ∘ fun n : Int => UInt8.ofNat n.toNat) x = id x := by
    intro x hx
    have := h x hx
    show ((UInt8.ofNat x.toNat).toNat : Int) = x
    rw [UInt8.toNat_ofNat']
    omega
  rw [List.map_congr_left this, List.map_id]
/-- a text that is written is read -/
theorem getText_put (l : List Int) (s : ByteArray) (p : Nat) (t : List Int) (hs : s.size ≤ 1048576) (hd : l.drop p = putText s ++ t) : getText l (p : Int) = (s, ((p + (putText s).length : Nat) : Int), true) := by
  unfold putText at hd
  rw [List.append_assoc] at hd
  have g := getNum_put l (s.size : Int) p (bytesOf s ++ t) (by omega) (by omega) hd
  have hd2 : l.drop (p + (put (s.size : Int)).length) = bytesOf s ++ t := by
    rw [← List.drop_drop, hd, List.drop_left' rfl]
  have hlen : (l.drop (p + (put (s.size : Int)).length)).length = s.size + t.length := by rw [hd2, List.length_append, bytesOf_length]
  rw [List.length_drop] at hlen
  have tb := take_back hd2
  rw [bytesOf_length] at tb
  unfold getText
  rw [g]
  simp only [if_true]
  by_cases z : s.size = 0
  · have hb : bytesOf s = [] := List.eq_nil_of_length_eq_zero (by rw [bytesOf_length]; exact z)
    have hpl : p + (put (s.size : Int)).length ≤ l.length := by
      have h1 : (l.drop p).length = (put (s.size : Int)).length + (bytesOf s ++ t).length := by rw [hd, List.length_append]
      rw [List.length_drop] at h1
      have h2 : 0 < (put (s.size : Int)).length := by
        unfold put
        rw [if_pos ⟨by omega, by omega⟩]
        unfold enc
        split <;> simp
      omega
    rw [if_neg (by omega)]
    have e1 : (((p + (put (s.size : Int)).length : Nat) : Int) + (s.size : Int)).toNat = p + (put (s.size : Int)).length + s.size := by omega
    have e2 : (((p + (put (s.size : Int)).length : Nat) : Int)).toNat = p + (put (s.size : Int)).length := by omega
    rw [e1, e2, tb, str_bytes]
    unfold putText
    rw [List.length_append, bytesOf_length]
    congr 2
    omega
  · rw [if_neg (by omega)]
    have e1 : (((p + (put (s.size : Int)).length : Nat) : Int) + (s.size : Int)).toNat = p + (put (s.size : Int)).length + s.size := by omega
    have e2 : (((p + (put (s.size : Int)).length : Nat) : Int)).toNat = p + (put (s.size : Int)).length := by omega
    rw [e1, e2, tb, str_bytes]
    unfold putText
    rw [List.length_append, bytesOf_length]
    congr 2
    omega
/-- a text that is read was written -/
theorem put_getText (l : List Int) (hl : ∀ x ∈ l, 0 ≤ x ∧ x ≤ 255) (p : Nat) (h : (getText l (p : Int)).2.2 = true) : (getText l (p : Int)).2.1 = ((p + (putText (getText l (p : Int)).1).length : Nat) : Int) ∧ ∃ t, l.drop p = putText (getText l (p : Int)).1 ++ t := by
  unfold getText at h ⊢
  by_cases h1 : (getNum l (p : Int)).2.2 = true
  · have g := getNum_ok l hl (p : Int) h1
    obtain ⟨b1, t, b2⟩ := put_getNum l hl p h1
    simp only [if_pos h1] at h ⊢
    generalize getNum l (p : Int) = v at *
    obtain ⟨n, m, ok⟩ := v
    simp only at *
    by_cases h2 : n > (l.length : Int) - m
    · rw [if_pos h2] at h
      cases h
    · rw [if_neg h2]
      simp only
      have hm : m.toNat = p + (put n).length := by omega
      have e1 : (m + n).toNat = m.toNat + n.toNat := by omega
      have hx : ((l.take (m + n).toNat).drop m.toNat).length = n.toNat := by
        rw [List.length_drop, List.length_take]
        omega
      have hs : (strOfNums ((l.take (m + n).toNat).drop m.toNat)).size = n.toNat := by rw [strOfNums_size, hx]
      have hn : ((strOfNums ((l.take (m + n).toNat).drop m.toNat)).size : Int) = n := by rw [hs]; omega
      have hbytes : bytesOf (strOfNums ((l.take (m + n).toNat).drop m.toNat)) = (l.take (m + n).toNat).drop m.toNat := bytes_str _ (fun x hx => hl x (List.mem_of_mem_take (List.mem_of_mem_drop hx)))
      have ep : putText (strOfNums ((l.take (m + n).toNat).drop m.toNat)) = put n ++ (l.take (m + n).toNat).drop m.toNat := by
        unfold putText
        rw [hn, hbytes]
      rw [ep]
      refine ⟨?_, l.drop (m + n).toNat, ?_⟩
      · rw [List.length_append, hx]
        omega
      · have q : t = l.drop m.toNat := by
          rw [hm, ← List.drop_drop, b2, List.drop_left' rfl]
        have r : l.drop m.toNat = (l.take (m + n).toNat).drop m.toNat ++ l.drop (m + n).toNat := by
          have e3 : (l.take (m + n).toNat).drop m.toNat = (l.drop m.toNat).take n.toNat := by
            rw [List.drop_take, e1, Nat.add_sub_cancel_left]
          rw [e3, e1, ← List.drop_drop, List.take_append_drop]
        rw [b2, q, r, List.append_assoc]
  · rw [if_neg h1] at h
    cases h
end Go.Proofs.Ytgkeapbeogmfjaa.L

/- Texts that are drawn: the draw comes to its end, with few bytes. Condition: a cursor that stands at no place below 0. -/
namespace Go.Proofs.Ytgkeapbeogmfjaa.L
open Go.RowKit Go.Proofs.YtgkeapbeogmfjaaW.PrintWords Go.Proofs.YtgkeapbeogmfjaaW.PrintLast Go.Proofs.YtgkeapbeogmfjaaW.PrintMore Go.Proofs.Ytgkeapbeogmfjaa.Q

theorem l1Pick (l : List Int) (hl : l.length ≤ 1048576) (i h : Int) (xs : List ByteArray) (hi : okC i) (h0 : 0 < xs.length) (hn : xs.length ≤ 1048576) : ∃ r, spec_l1Pick.f l i h xs = some r ∧ r.1 ∈ xs ∧ okC r.2.1 := by
  obtain ⟨r, hr, r0, r1, h2⟩ := l1Below l hl i h (xs.length : Int) hi (by omega)
  have r1 := r1 (by omega)
  unfold spec_l1Pick.f
  rw [hr, Option.bind_some, if_pos r0, if_pos r1]
  refine ⟨_, rfl, ?_, h2⟩
  obtain ⟨j, hj⟩ := Int.eq_ofNat_of_zero_le r0
  show rdOf ByteArray.empty xs r.1 ∈ xs
  have q : j < xs.length := by omega
  have e : rdOf ByteArray.empty xs r.1 = xs[j] := by
    rw [hj]
    simp [rdOf, List.getD_eq_getElem?_getD, q]
  rw [e]
  exact List.getElem_mem _
end Go.Proofs.Ytgkeapbeogmfjaa.L

/- Commands and their bytes that are drawn: the draw comes to its end, with few bytes. Condition: a cursor that stands at no place below 0. -/
set_option linter.unusedVariables false
namespace Go.Proofs.Ytgkeapbeogmfjaa.L
open Go.RowKit Go.Proofs.YtgkeapbeogmfjaaW.PrintWords Go.Proofs.YtgkeapbeogmfjaaW.PrintLast Go.Proofs.YtgkeapbeogmfjaaW.PrintMore Go.Proofs.Ytgkeapbeogmfjaa.Q

/-- a list of bytes -/
def byt (l : List Int) : Prop := ∀ x ∈ l, 0 ≤ x ∧ x ≤ 255
theorem byt_nil : byt [] := fun x hx => absurd hx (List.not_mem_nil)
theorem byt_app {a b : List Int} (h : byt a) (k : byt b) : byt (a ++ b) := fun x hx => (List.mem_append.1 hx).elim (h x) (k x)
theorem byt_take {a : List Int} (h : byt a) (n : Nat) : byt (a.take n) := fun x hx => h x (List.mem_of_mem_take hx)
theorem byt_mod (x : Int) : byt [x % 256] := fun y hy => by rw [List.mem_singleton] at hy; subst hy; omega
theorem byt_enc : ∀ (d : Nat) (x : Int), 0 ≤ x → byt (enc d x) := by
  intro d
  induction d with
  | zero => intro x _; exact byt_mod x
  | succ d ih =>
    intro x h
    unfold enc
    split
    · intro y hy
      rcases List.mem_cons.1 hy with rfl | hy
      · omega
      · exact ih (x / 128) (by omega) y hy
    · exact byt_mod x
theorem byt_put (x : Int) : byt (put x) := by
  unfold put
  split
  · rename_i h
    exact byt_enc 4 x h.1
  · exact byt_nil
theorem byt_bytesOf (s : ByteArray) : byt (bytesOf s) := by
  intro x hx
  unfold bytesOf at hx
  obtain ⟨b, _, rfl⟩ := List.mem_map.1 hx
  have := b.toNat_lt
  omega
/-- drawn bytes, n of them at the most, and the cursor's place -/
def okN (n : Nat) (x : List Int × Int × Int) : Prop := byt x.1 ∧ x.1.length ≤ n ∧ okC x.2.1
theorem l7Nums_l0 (l : List Int) (hl : l.length ≤ 1048576) : ∀ (d i : Nat), i + d = 4 → ∀ (acc : List Int) (ci ch : Int), byt acc → acc.length ≤ 5 * i → okC ci → Dr (fun k => spec_l7DrawNums.l0 k acc (i : Int) l ci ch) (okN 22) := by
  have fin : ∀ (acc : List Int) (ci ch : Int), byt acc → acc.length ≤ 20 → okC ci → Dr (fun _ => (spec_l1Once.f l ci ch 3).bind fun bt419 => (if bt419.1 = true then ((spec_l1PickInt.f l bt419.2.1 bt419.2.2 (([0, 128, 255] : List Int))).bind fun bt425 => ((spec_l1Below.f l bt425.2.1 bt425.2.2 3).bind fun bt428 => ((some (([(bt425.1) % 256, (bt428.1) % 256] : List Int) : List Int)).bind fun y431 => (if acc.length + y431.length < 140737488355328 then (some ((acc ++ y431), bt428.2.1, bt428.2.2)) else (none))))) else (some (acc, bt419.2.1, bt419.2.2)))) (okN 22) := by
    intro acc ci ch hb hn hc
    refine dr_some (l1Once l hl ci ch 3 hc (by omega)) (fun r hr => dr_ite (fun _ => ?_) (fun _ => dr_now ⟨hb, by show acc.length ≤ 22; omega, hr⟩))
    refine dr_some (l1PickInt l hl _ _ _ hr (by simp) (by simp)) (fun s hs => dr_some (l1Below l hl _ _ 3 hs.2 (by omega)) (fun u hu => dr_eq rfl (dr_pos ?_ (dr_now ⟨?_, ?_, hu.2.2⟩))))
    · show acc.length + 2 < _
      omega
    · exact byt_app hb (byt_app (a := [s.1 % 256]) (byt_mod _) (byt_mod _))
    · show (acc ++ [_, _]).length ≤ 22
      rw [List.length_append]
      show acc.length + 2 ≤ 22
      omega
  intro d
  induction d with
  | zero =>
    intro i h acc ci ch hb hn hc
    refine dr_step (fun _ => by rw [spec_l7DrawNums.l0]) ?_
    refine dr_some (l1Below l hl ci ch 4 hc (by omega)) (fun r hr => ?_)
    have := hr.2.1 (by omega)
    exact dr_neg (by omega) (fin acc _ _ hb (by omega) hr.2.2)
  | succ d ih =>
    intro i h acc ci ch hb hn hc
    have e : wrap64 ((i : Int) + 1) = ((i + 1 : Nat) : Int) := by rw [w64 (by omega) (by omega)]; omega
    refine dr_step (fun _ => by rw [spec_l7DrawNums.l0]) ?_
    rw [e]
    refine dr_some (l1Below l hl ci ch 4 hc (by omega)) (fun r hr => dr_ite (fun _ => ?_) (fun _ => fin acc _ _ hb (by omega) hr.2.2))
    refine dr_some (l1PickInt l hl _ _ _ hr.2.2 (by simp) (by simp)) (fun s hs => dr_bind (dr_of (P := fun y => y = put s.1) (specPut s.1) rfl) (fun y hy => ?_))
    subst hy
    have hp := put_len s.1
    exact dr_pos (by omega) (ih (i + 1) (by omega) _ _ _ (byt_app hb (byt_put _)) (by rw [List.length_append]; omega) hs.2)
theorem l7Nums (l : List Int) (hl : l.length ≤ 1048576) (ci ch : Int) (hc : okC ci) : Dr (fun k => spec_l7DrawNums.f k l ci ch) (okN 22) := l7Nums_l0 l hl 4 0 rfl _ _ _ byt_nil (by simp) hc
end Go.Proofs.Ytgkeapbeogmfjaa.L

/- Numbers, texts and their bytes that are drawn. Condition: no more than 1048576 bytes. -/
namespace Go.Proofs.Ytgkeapbeogmfjaa.L
open Go.RowKit Go.Proofs.YtgkeapbeogmfjaaW.PrintWords Go.Proofs.YtgkeapbeogmfjaaW.PrintLast Go.Proofs.YtgkeapbeogmfjaaW.PrintMore Go.Proofs.Ytgkeapbeogmfjaa.Q

theorem drawPutNum (l : List Int) (hl : l.length ≤ 1048576) : Dr (fun k => spec_DrawPutNum.f k l) (fun _ => True) := by
  refine dr_bind (l1New l hl) (fun c hc => ?_)
  obtain ⟨c0, ci, ch⟩ := c
  obtain ⟨rfl, hc⟩ := hc
  exact dr_some (l1PickInt c0 hl _ _ _ hc (by simp) (by simp)) (fun p _ => dr_now trivial)
theorem drawPutText (l : List Int) (hl : l.length ≤ 1048576) : Dr (fun k => spec_DrawPutText.f k l) (fun x => x.size ≤ 9) := by
  refine dr_bind (l1New l hl) (fun c hc => ?_)
  obtain ⟨c0, ci, ch⟩ := c
  obtain ⟨rfl, hc⟩ := hc
  refine dr_some (l1Pick c0 hl _ _ _ hc (by simp) (by simp)) (fun p hp => dr_now ?_)
  have h := hp.1
  simp only [List.mem_cons, List.not_mem_nil, or_false] at h
  show p.1.size ≤ 9
  rcases h with h | h | h | h <;> rw [h] <;> decide
theorem drawGetNum (l : List Int) (hl : l.length ≤ 1048576) : Dr (fun k => spec_DrawGetNum.f k l) (fun x => byt x.1 ∧ x.1.length ≤ 1000 ∧ x.2 ≤ 9223372036854775807) := by
  refine dr_bind (l1New l hl) (fun c hc => ?_)
  obtain ⟨c0, ci, ch⟩ := c
  obtain ⟨rfl, hc⟩ := hc
  refine dr_bind (l7Nums c0 hl _ _ hc) (fun z hz => ?_)
  have hzl := hz.2.1
  refine dr_some (l1PickInt c0 hl _ _ _ hz.2.2 (by simp) (by simp)) (fun v hv => dr_now ⟨hz.1, by show z.1.length ≤ 1000; omega, ?_⟩)
  have h := hv.1
  have e : wrap64 ((z.1.length : Int) - 5) = (z.1.length : Int) - 5 := w64 (by omega) (by omega)
  rw [e] at h
  simp only [List.mem_cons, List.not_mem_nil, or_false] at h
  show v.1 ≤ 9223372036854775807
  rcases h with h | h | h | h | h | h | h <;> omega
theorem drawGetText (l : List Int) (hl : l.length ≤ 1048576) : Dr (fun k => spec_DrawGetText.f k l) (fun x => byt x.1 ∧ x.1.length ≤ 1000 ∧ x.2 ≤ 9223372036854775807) := by
  refine dr_bind (l1New l hl) (fun c hc => ?_)
  obtain ⟨c0, ci, ch⟩ := c
  obtain ⟨rfl, hc⟩ := hc
  refine dr_some (l1Pick c0 hl _ _ _ hc (by simp) (by simp)) (fun p hp => ?_)
  have hp1 : p.1.size ≤ 3 := by
    have h := hp.1
    simp only [List.mem_cons, List.not_mem_nil, or_false] at h
    rcases h with h | h | h <;> rw [h] <;> decide
  have hpl := putText_len p.1
  refine dr_bind (dr_of (P := fun y => y = putText p.1) (specPutText p.1 (by omega)) rfl) (fun y hy => ?_)
  subst hy
  refine dr_bind (l7Nums c0 hl _ _ hp.2) (fun z hz => ?_)
  have hzl := hz.2.1
  have hb : byt (putText p.1 ++ z.1) := byt_app (byt_app (byt_put _) (byt_bytesOf _)) hz.1
  have hn : (putText p.1 ++ z.1).length ≤ 40 := by rw [List.length_append]; omega
  refine dr_pos (by omega) (dr_eq rfl ?_)
  generalize putText p.1 ++ z.1 = q at hb hn
  have e : wrap64 ((q.length : Int) + 1) = (q.length : Int) + 1 := w64 (by omega) (by omega)
  refine dr_some (l1Once c0 hl _ _ 4 hz.2.2 (by omega)) (fun r hr => dr_ite (fun _ => ?_) (fun _ => ?_))
  · rw [e]
    refine dr_some (l1Below c0 hl _ _ _ hr (by omega)) (fun s hs => ?_)
    have s0 := hs.1
    have s1 := hs.2.1 (by omega)
    refine dr_pos s0 (dr_pos (by omega) (dr_eq rfl ?_))
    have ht : (q.take s.1.toNat).length ≤ 40 := by rw [List.length_take]; omega
    have hq := byt_take hb s.1.toNat
    generalize q.take s.1.toNat = u at ht hq
    refine dr_some (l1PickInt c0 hl _ _ _ hs.2.2 (by simp) (by simp)) (fun v hv => dr_now ⟨hq, by show u.length ≤ 1000; omega, ?_⟩)
    have h := hv.1
    simp only [List.mem_cons, List.not_mem_nil, or_false] at h
    show v.1 ≤ 9223372036854775807
    rcases h with h | h | h | h | h | h <;> omega
  · refine dr_some (l1PickInt c0 hl _ _ _ hr (by simp) (by simp)) (fun v hv => dr_now ⟨hb, by show q.length ≤ 1000; omega, ?_⟩)
    have h := hv.1
    simp only [List.mem_cons, List.not_mem_nil, or_false] at h
    show v.1 ≤ 9223372036854775807
    rcases h with h | h | h | h | h | h <;> omega
end Go.Proofs.Ytgkeapbeogmfjaa.L

/- FnBytes as a plain statement: proved for all arguments. -/
namespace Go.Proofs.Ytgkeapbeogmfjaa.Pure
open Go.RowKit Go.Proofs.YtgkeapbeogmfjaaW.PrintWords Go.Proofs.YtgkeapbeogmfjaaW.PrintLast Go.Proofs.YtgkeapbeogmfjaaW.PrintMore Go.Proofs.Ytgkeapbeogmfjaa.Q Go.Proofs.Ytgkeapbeogmfjaa.L

/-- the bytes that a number, or a text, was read from -/
theorem cut_num (l : List Int) (hl : byt l) (a z q : Int) (h : getNum l a = (z, q, true)) : 0 ≤ a ∧ a ≤ q ∧ q ≤ (l.length : Int) ∧ (l.take q.toNat).drop a.toNat = put z := by
  have ok : (getNum l a).2.2 = true := by rw [h]
  have b := getNum_ok l hl a ok
  obtain ⟨p, rfl⟩ : ∃ p : Nat, a = (p : Int) := ⟨a.toNat, by omega⟩
  obtain ⟨w1, t, w2⟩ := put_getNum l hl p ok
  rw [h] at b w1 w2
  have w1 : q = ((p + (put z).length : Nat) : Int) := w1
  have b3 : (p : Int) < q := b.2.2.2.1
  have b4 : q ≤ (l.length : Int) := b.2.2.2.2
  refine ⟨by omega, by omega, b4, ?_⟩
  rw [w1, Int.toNat_natCast, Int.toNat_natCast]
  exact take_back w2
theorem cut_text (l : List Int) (hl : byt l) (hn : l.length ≤ 1048576) (a : Int) (z : ByteArray) (q : Int) (h : getText l a = (z, q, true)) : 0 ≤ a ∧ a ≤ q ∧ q ≤ (l.length : Int) ∧ (l.take q.toNat).drop a.toNat = putText z := by
  have ok : (getText l a).2.2 = true := by rw [h]
  have b := getText_le l ⟨hl, hn⟩ a ok
  have b0 : 0 ≤ a := by
    have : (getNum l a).2.2 = true := by
      unfold getText at ok
      split at ok
      · assumption
      · exact absurd ok (by simp)
    exact (getNum_ok l hl a this).2.2.1
  obtain ⟨p, rfl⟩ : ∃ p : Nat, a = (p : Int) := ⟨a.toNat, by omega⟩
  obtain ⟨w1, t, w2⟩ := put_getText l hl p ok
  rw [h] at b w1 w2
  have w1 : q = ((p + (putText z).length : Nat) : Int) := w1
  have b4 : q ≤ (l.length : Int) := b.2
  refine ⟨by omega, by omega, b4, ?_⟩
  rw [w1, Int.toNat_natCast, Int.toNat_natCast]
  exact take_back w2
theorem text_fin (raw : List Int) (i : Int) (s : ByteArray) (q : Int) (hb : byt raw) (hn : raw.length ≤ 1048576) (h : getText raw i = (s, q, true)) {g : Nat → Option (List Int)} (hp : Ev g (putText s)) :
    Ev (fun k => (g k).bind fun t334 => (if 0 ≤ i then (if i ≤ q then (if q ≤ (raw.length : Int) then (some ((strOfNums t334).toList == (strOfNums ((raw.take (q : Int).toNat).drop (i : Int).toNat)).toList)) else (none)) else (none)) else (none))) true := by
  obtain ⟨c0, c1, c2, c3⟩ := cut_text raw hb hn i s q h
  refine ev_bind hp (ev_pos c0 (ev_pos c1 (ev_pos c2 (ev_now ?_))))
  rw [c3]
  simp
theorem FnBytes (l : List Int) (_ : l.length ≤ maxLen ∧ ∀ y ∈ l, (Lit.int .u8 y).wf = true) : ∃ k, laws_FnBytes.f k l = some true := by
  refine Ev.rounds (g := fun k => laws_FnBytes.f k l) ?_
  refine ev_some rfl (ev_ite (fun _ => ev_now rfl) (fun h => ?_))
  have hn : l.length ≤ 1048576 := by simp only [decide_eq_true_eq] at h; omega
  obtain ⟨x, hx, _⟩ := drawPutNum l hn
  obtain ⟨t, ht, hts⟩ := drawPutText l hn
  obtain ⟨⟨raw, i⟩, hr, hb, hlen, hat⟩ := drawGetNum l hn
  obtain ⟨⟨raw3, i3⟩, hr3, hb3, hlen3, hat3⟩ := drawGetText l hn
  have hts : t.size ≤ 9 := hts
  have hb : byt raw := hb
  have hlen : raw.length ≤ 1000 := hlen
  have hat : i ≤ 9223372036854775807 := hat
  have hb3 : byt raw3 := hb3
  have hlen3 : raw3.length ≤ 1000 := hlen3
  have hat3 : i3 ≤ 9223372036854775807 := hat3
  have e1 := implPut x
  have e2 := implPutText t (by omega)
  have e3 := specPut x
  have e4 := specPutText t (by omega)
  have lp := put_len x
  have lt := putText_len t
  have e5 := implGet (put x) (byt_put x) (by omega) 0 (by omega)
  have bt : byt (putText t) := byt_app (byt_put _) (byt_bytesOf _)
  have e6 := implText (putText t) bt (by omega) 0 (by omega)
  have g6 := getText_put (putText t) t 0 [] (by omega) (by simp)
  rw [Nat.zero_add] at g6
  have g6 : getText (putText t) 0 = (t, (((putText t).length : Nat) : Int), true) := g6
  rw [g6] at e6
  have e7 := implGet raw hb (by omega) i hat
  have e8 := specGet raw hb (by omega) i hat
  have e9 := implText raw3 hb3 (by omega) i3 hat3
  have e10 := specText raw3 hb3 (by omega) i3 hat3
  have fin : Ev (fun k => laws_FnBytes.j1 k l false) true := by
    refine ev_step (fun _ => by rw [laws_FnBytes.j1]) (ev_neg (by simp) ?_)
    refine ev_bind hr (ev_bind e7 (ev_bind e8 (ev_bind hr3 (ev_bind e9 (ev_bind e10 (ev_neg (by simp) (ev_pos rfl (ev_neg (by simp) ?_))))))))
    have q1 := cut_num raw hb i
    have q2 := text_fin raw3 i3
    cases g : getNum raw i with
    | mk z r =>
      obtain ⟨stop, one⟩ := r
      cases g3 : getText raw3 i3 with
      | mk z3 r3 =>
        obtain ⟨stop3, five⟩ := r3
        have e11 := implPut z
        show Ev (fun k => laws_FnBytes.j2 k raw i z stop one raw3 i3 z3 stop3 five (stop3 != stop3)) true
        rw [show (stop3 != stop3) = false by simp]
        refine ev_step (fun _ => by rw [laws_FnBytes.j2]) (ev_neg (by simp) ?_)
        have last : five = true → Ev (fun k => impl_PutText.f k z3) (putText z3) := by
          intro f
          subst f
          have := text_size raw3 ⟨hb3, by omega⟩ i3 true
          refine implPutText z3 ?_
          unfold text at this
          rw [if_pos ⟨by rw [g3], rfl⟩, g3] at this
          exact this
        cases one with
        | true =>
          obtain ⟨c0, c1, c2, c3⟩ := q1 z stop g
          refine ev_pos rfl (ev_bind e11 (ev_pos c0 (ev_pos c1 (ev_pos c2 (ev_pos (by rw [c3]) ?_)))))
          cases five with
          | true => exact ev_pos rfl (q2 z3 stop3 hb3 (by omega) g3 (last rfl))
          | false => exact ev_neg (by simp) (ev_now rfl)
        | false =>
          refine ev_neg (by simp) ?_
          cases five with
          | true => exact ev_pos rfl (q2 z3 stop3 hb3 (by omega) g3 (last rfl))
          | false => exact ev_neg (by simp) (ev_now rfl)
  refine ev_bind hx (ev_bind e1 (ev_bind ht (ev_bind e2 (ev_bind e3 (ev_pos rfl (ev_bind e4 ?_))))))
  show Ev (fun k => laws_FnBytes.j0 k l x (put x) t (putText t) ((strOfNums (putText t)).toList != (strOfNums (putText t)).toList)) true
  rw [show ((strOfNums (putText t)).toList != (strOfNums (putText t)).toList) = false by simp]
  refine ev_step (fun _ => by rw [laws_FnBytes.j0]) (ev_neg (by simp) ?_)
  refine ev_bind e5 (ev_bind e6 ?_)
  have tail : Ev (fun k => laws_FnBytes.j1 k l ((((putText t).length : Nat) : Int) != ((putText t).length : Int))) true := by
    rw [show ((((putText t).length : Nat) : Int) != ((putText t).length : Int)) = false by simp]
    exact fin
  refine ev_ite (fun c => ?_) (fun _ => ev_pos rfl (ev_pos rfl tail))
  have hr0 : 0 ≤ x ∧ x ≤ 2147483647 := by
    by_cases q : 0 ≤ x ∧ x ≤ 2147483647
    · exact q
    · unfold put at c
      rw [if_neg q] at c
      exact absurd c (by simp)
  have g5 := getNum_put (put x) x 0 [] hr0.1 hr0.2 (by simp)
  rw [Nat.zero_add] at g5
  have g5 : getNum (put x) 0 = (x, (((put x).length : Nat) : Int), true) := g5
  rw [g5]
  exact ev_pos rfl (ev_pos rfl (ev_pos rfl (ev_pos rfl (ev_pos rfl tail))))
end Go.Proofs.Ytgkeapbeogmfjaa.Pure

/- The law FnBytes: its statement holds, for all arguments. Made by a program of ours out of the plain theorem and the walk. No condition. -/
namespace Go.Proofs.Ytgkeapbeogmfjaa.fnBytes
open Go.ChangeShapes Go.WideShapes Go.ChangeAt Go.RowKit Go.Proofs.YtgkeapbeogmfjaaW.PrintWords Go.Proofs.Ytgkeapbeogmfjaa.Q Go.Proofs.Ytgkeapbeogmfjaa.R
open Go.ChangeMaps (open_string shut_string)
set_option linter.unusedVariables false
theorem own : ownKnob Try.prog.godebug = none := by kernel_rfl
theorem laidOut : laidOutB Try.prog = true := by kernel_rfl
set_option maxRecDepth 100000 in
theorem lifted (os : Os) (started : os.Started) (H : Type) (enc : TypeId × Value → H) :
    ReturnsInHanded {} Try.checked os 7 .any (Rows.fnBytesSpec.pre6 enc Try.prog Try.f7 Rows.fnBytesRow.domain false) (Rows.fnBytesSpec.post enc Try.prog Try.f7 false true false false) := by
  refine returnsInHanded_of_change_sized (C := Try.checked) own started (by kernel_rfl) Try.func7
    (ChangeSpec.witness6 (enc := enc) (C := Try.checked) false ⟨#[], #[.slice none 0 0], []⟩ 8 (by kernel_rfl) (by kernel_rfl) (by kernel_rfl) (by kernel_rfl)) ?_
  intro W base args ds gs before hval0 hW hcnd hsz0 _
  have hval : ∀ (j : Nat) t v, Try.f7.params[j]? = some t → args[j]? = some v → Value.okWide Try.prog W .any base t v := hval0
  have hW' := hW
  obtain ⟨p, q, hA0, hV, rfl, hfz, hnd⟩ := hW
  have hA : DataW.TrodAll enc Try.prog W 0 (fun _ => true) true Try.f7.params.toList args.toList ds p := hA0
  rw [Try.params7] at hA hval
  obtain ⟨v0, vs0, d0, ds0, p0, q0, hargs, rfl, rfl, h0, r0⟩ := trodAll_cons hA
  obtain ⟨rfl, rfl, rfl⟩ := trodAll_nil r0
  obtain rfl : args = #[v0] := by cases args; simp_all
  obtain ⟨rfl, rfl⟩ := trodVars_none hV
  have k0 := h0
  have lt0 : ∀ x ∈ p0, x.block < W.heap.size := by obtain ⟨m, hm⟩ := k0; exact DataW.trod_lt m _ _ _ hm
  obtain ⟨A0, len0, c0, rfl⟩ := okWide_slice Try.underlying61 (hval 0 61 v0 rfl rfl)
  obtain ⟨fuel0, hf0⟩ := h0
  obtain ⟨l0, ⟨A0', c0', hz0, hc0, hr0⟩, w0⟩ := (rd_slice Try.underlying61 (by kernel_rfl) (rd_int Try.underlying5)) H enc W 0 (fun _ => true) true fuel0 _ _ hf0
  obtain ⟨rfl, rfl, rfl⟩ : A0 = A0' ∧ len0 = l0.length ∧ c0 = c0' := by simpa [Value.cells] using hz0
  clear hA0 hval0 hsz0
  obtain ⟨k, hk⟩ := Pure.FnBytes l0 w0
  refine (laws_FnBytes.calls (w := W) (hr0 := hr0) (hc0 := hc0) (h := hk)).mono fun e W' he => ?_
  obtain ⟨rfl, bel0⟩ := he
  have bel : Below W.heap.size W W' := by first | exact bel0 | exact Drawn0.below bel0
  exact ⟨_, rfl, _, _, _, [], _, [], hW', trodAll_mk1 (shut_bool Try.underlying4 _), (trodAll_cons_mk (Below.trod laidOut (by kernel_rfl) (of_decide_eq_true (by kernel_rfl)) k0 bel lt0) trodAll_mk0), rfl, bel.frame _, fun h => by cases h⟩
theorem over : Rows.fnBytesRow.holds Try.pinned (OpenSpec.ofChange Rows.fnBytesSpec) :=
  OpenClaim.holds_of_wide 7 Try.f7 rfl rfl rfl rfl rfl rfl rfl ⟨rfl, rfl, rfl, rfl, rfl⟩ rfl rfl rfl rfl rfl (by kernel_rfl) Try.func7 (by kernel_rfl)
    (of_decide_eq_true (by kernel_rfl)) (by unfold Func.isWrapper; first | (rw [if_pos (by decide +kernel)]; kernel_rfl) | (rw [if_neg (by decide +kernel)]; exact ⟨rfl, rfl⟩))
    (fun os started H enc _ => lifted os started H enc)
end Go.Proofs.Ytgkeapbeogmfjaa.fnBytes
namespace Go.Proofs.Ytgkeapbeogmfjaa
/-- The row, under a short name, for the claim. -/
theorem fnBytes_holds : Rows.FnBytesSaid := fnBytes.over
#print axioms fnBytes_holds
end Go.Proofs.Ytgkeapbeogmfjaa

