/- The law FnCmdBytes holds, for all arguments: its row, and behind it the plain side of what the program and the reference compute. Conditions: those that each theorem states; the row has none. -/
import Derived.Test.YtiknkolclcdajaaRows
import Derived.Deep.Slices
import Derived.ChangeArms
import Derived.WideShapes
import Derived.Laws.BitsLemmas
import Derived.WalkKit
import Derived.ProofKit
import Derived.OpenShut
import Derived.ShutString
import Derived.ChangeOld
import Derived.Below
import Derived.SizedLaws
import Derived.Test.YtiknkolclcdajaaZFnCmdBytes0
import Derived.Test.YtiknkolclcdajaaZFnCmdBytesa
import Derived.Test.YtiknkolclcdajaaZFnCmdBytesb
import Derived.Test.YtiknkolclcdajaaZFnCmdBytesc
import Derived.Test.YtiknkolclcdajaaZFnCmdBytesd
import Derived.Test.YtiknkolclcdajaaZFnCmdBytese
import Derived.Test.YtiknkolclcdajaaZFnCmdBytesf
/- What is read as data is of a printed kind: whole numbers, texts, structs of one-cell fields, slices. For the laws' rows. No condition. -/
namespace Go.Proofs.Ytiknkolclcdajaa.R
open Go.RowKit Go.Proofs.YtiknkolclcdajaaW.PrintWords Go.WideShapes

/-- Whatever is read as data of type t has cells that are of kind d. -/
def Rd {α : Type} (P : Program) (t : TypeId) (d : Kd α) (wf : α → Prop) : Prop :=
  ∀ (H : Type) (enc : TypeId × Value → H) (W : World) (base : Nat) (spare : Nat → Bool) (held : Bool) (fuel : Nat) (cs : List Value) (x : DataW H × List MemPlace),
    DataW.trod enc P W base spare held fuel t cs = some x → ∃ a, d.K W a cs ∧ wf a
theorem rd_int {P : Program} {t : TypeId} {k : IntKind} (ht : P.underlying t = some (.int k)) : Rd P t (Kd.int k) (fun n => (Lit.int k n).wf = true) := by
  intro H enc W base spare held fuel cs x h
  obtain ⟨n, rfl, _, hw⟩ := DataW.trod_int ht h
  exact ⟨n, rfl, hw⟩
theorem rd_string {P : Program} {t : TypeId} (ht : P.underlying t = some .string) : Rd P t Kd.string (fun s => s.size ≤ maxLen) := by
  intro H enc W base spare held fuel cs x h
  obtain ⟨s, rfl, _, hw⟩ := DataW.trod_string ht h
  exact ⟨s, rfl, hw⟩
theorem rd_slice {α : Type} {P : Program} {t e : TypeId} {d : Kd α} {wf : α → Prop} (ht : P.underlying t = some (.slice e)) (hs : P.cellsOf e = d.sz) (hr : Rd P e d wf) :
    Rd P t (Kd.slice e d) (fun xs => xs.length ≤ maxLen ∧ ∀ x ∈ xs, wf x) := by
  intro H enc W base spare held fuel cs x h
  rcases Go.Deep.open_slice ht h with ⟨rfl, _⟩ | ⟨a, len, cap, m, n, D, Pl, rfl, hb, hl, hm, hmm, _, hx⟩
  · exact ⟨[], ⟨none, 0, rfl, Nat.le_refl _, rfl, by simp, fun h0 => absurd h0 (by simp)⟩, by simp, by simp⟩
  · have hml : len ≤ m := by rw [hmm]; split <;> omega
    have key : ∀ i, i < len → ∃ p : α, wf p ∧ ∃ c, c.length = d.sz ∧ d.K W p c ∧ ∀ q u, c[q]? = some u → W.cell? (a.add (i * d.sz + q)) = some u := by
      intro i hi
      obtain ⟨cs', h1, h2⟩ := hx i (by omega)
      obtain ⟨p, hp, hw⟩ := hr H enc W base spare held n cs' _ h2
      obtain ⟨_, hlen, hc⟩ := World.cells?_some h1
      rw [hs] at hlen hc
      refine ⟨p, hw, cs', hlen, hp, fun q u hq => ?_⟩
      have hq' : q < d.sz := by
        have := (List.getElem?_eq_some_iff.1 hq).1
        omega
      rw [← hq, ← hc q hq', Go.Deep.add_add]
    have key2 : ∃ f : Nat → Option α, ∀ i, i < len → ∃ p, f i = some p ∧ wf p ∧ ∃ c, c.length = d.sz ∧ d.K W p c ∧ ∀ q u, c[q]? = some u → W.cell? (a.add (i * d.sz + q)) = some u := by
      classical
      refine ⟨fun i => if hi : i < len then some (Classical.choose (key i hi)) else none, fun i hi => ⟨Classical.choose (key i hi), by simp [hi], Classical.choose_spec (key i hi)⟩⟩
    obtain ⟨f, hf⟩ := key2
    have hlen : ∀ k, k ≤ len → ((List.range k).filterMap f).length = k ∧ ∀ j, j < k → ((List.range k).filterMap f)[j]? = f j := by
      intro k
      induction k with
      | zero => intro _; exact ⟨rfl, fun j hj => absurd hj (by omega)⟩
      | succ k ih =>
        intro hk
        obtain ⟨i1, i2⟩ := ih (by omega)
        obtain ⟨p, hp, _⟩ := hf k (by omega)
        have e : (List.range (k + 1)).filterMap f = (List.range k).filterMap f ++ [p] := by rw [List.range_succ, List.filterMap_append]; simp [hp]
        refine ⟨by rw [e]; simp [i1], fun j hj => ?_⟩
        rw [e]
        rcases Nat.lt_or_ge j k with h1 | h1
        · rw [List.getElem?_append_left (by omega)]; exact i2 j h1
        · obtain rfl : j = k := by omega
          rw [List.getElem?_append_right (by omega), i1]; simp [hp]
    obtain ⟨i1, i2⟩ := hlen len (Nat.le_refl _)
    refine ⟨(List.range len).filterMap f, ⟨some a, cap, by rw [i1], by rw [i1]; exact hl, rfl, by rw [i1]; simp only [maxLen] at hm; omega, fun _ => ⟨a, rfl, fun j p hj => ?_⟩⟩, by rw [i1]; omega, fun p hp => ?_⟩
    · have hj' : j < len := by
        have := (List.getElem?_eq_some_iff.1 hj).1
        omega
      obtain ⟨p', hp', _, hc⟩ := hf j hj'
      rw [i2 j hj', hp'] at hj
      cases hj
      exact hc
    · obtain ⟨i, hi, hfi⟩ := List.mem_filterMap.1 hp
      obtain ⟨p', hp', hw, _⟩ := hf i (by simpa using hi)
      rw [hp'] at hfi
      cases hfi
      exact hw
/-- The fields of a struct, each of one cell, cell by cell. -/
theorem rd_fields {H : Type} {enc : TypeId × Value → H} {P : Program} {W : World} {base : Nat} {spare : Nat → Bool} {held : Bool} {fuel : Nat} {t : TypeId} {fs : Array Field} {cs : List Value} {x : DataW H × List MemPlace}
    (ht : P.underlying t = some (.struct fs)) (h : DataW.trod enc P W base spare held fuel t cs = some x) : cs.length = P.cellsOf t ∧ ∃ n, ∀ (i : Nat) (f : Field), fs[i]? = some f → ∃ y, DataW.trod enc P W base spare held n f.type ((cs.drop f.offset).take (P.cellsOf f.type)) = some y := by
  obtain ⟨xs, n, _, _, hl, hlen, hf⟩ := DataW.trod_struct ht h
  refine ⟨hl, n, fun i f hi => ?_⟩
  have hi' : i < xs.length := by
    rw [hlen]
    exact (Array.getElem?_eq_some_iff.1 hi).1
  exact ⟨xs[i], by rw [hf i f hi, List.getElem?_eq_getElem hi']⟩
end Go.Proofs.Ytiknkolclcdajaa.R

/- Small words for plain proofs: what comes to its answer at enough rounds, one step at a time; whole numbers of 64 bits. No condition. -/
namespace Go.Proofs.Ytiknkolclcdajaa.L
open Go.RowKit Go.Proofs.YtiknkolclcdajaaW.PrintWords Go.Proofs.YtiknkolclcdajaaW.PrintLast Go.Proofs.YtiknkolclcdajaaW.PrintMore

theorem ev_pos {α : Type} {c : Prop} [Decidable c] {f g : Nat → Option α} {r : α} (h : c) (k : Ev f r) : Ev (fun n => if c then f n else g n) r := by
  simpa only [if_pos h] using k
theorem ev_neg {α : Type} {c : Prop} [Decidable c] {f g : Nat → Option α} {r : α} (h : ¬ c) (k : Ev g r) : Ev (fun n => if c then f n else g n) r := by
  simpa only [if_neg h] using k
theorem ev_ite {α : Type} {c : Prop} [Decidable c] {f g : Nat → Option α} {r : α} (h : c → Ev f r) (k : ¬ c → Ev g r) : Ev (fun n => if c then f n else g n) r := by
  by_cases hc : c
  · exact ev_pos hc (h hc)
  · exact ev_neg hc (k hc)
theorem ev_some {α β : Type} {g : Option α} {f : Nat → α → Option β} {a : α} {r : β} (h : g = some a) (k : Ev (fun n => f n a) r) : Ev (fun n => g.bind (f n)) r := by
  subst h
  exact k
theorem ev_bind {α β : Type} {g : Nat → Option α} {f : Nat → α → Option β} {a : α} {r : β} (h : Ev g a) (k : Ev (fun n => f n a) r) : Ev (fun n => (g n).bind (f n)) r := Ev.bind h k
/-- one round more -/
theorem ev_step {α : Type} {g f : Nat → Option α} {r : α} (h : ∀ k, g (k + 1) = f k) (k : Ev f r) : Ev g r := Ev.step h k
theorem ev_eq {α : Type} {g : Nat → Option α} {r r' : α} (h : r = r') (k : Ev g r) : Ev g r' := h ▸ k
theorem ev_now {α : Type} {r r' : α} (h : r = r') : Ev (fun _ => some r) r' := h ▸ Ev.now r

theorem wf_i64 {x : Int} (h : (Lit.int .i64 x).wf = true) : -9223372036854775808 ≤ x ∧ x ≤ 9223372036854775807 := by
  simp [Lit.wf, IntKind.min, IntKind.max, IntKind.bits, IntKind.signed] at h
  exact h
theorem wf_u8 {x : Int} (h : (Lit.int .u8 x).wf = true) : 0 ≤ x ∧ x ≤ 255 := by
  simp [Lit.wf, IntKind.min, IntKind.max, IntKind.bits, IntKind.signed] at h
  exact h
theorem w64 {x : Int} (h0 : -9223372036854775808 ≤ x) (h1 : x ≤ 9223372036854775807) : wrap64 x = x := by
  unfold wrap64
  omega
theorem rd_eq (xs : List Int) (i : Nat) (h : i < xs.length) : rd xs (i : Int) = xs[i] := by
  simp [rd, List.getD_eq_getElem?_getD, h]
end Go.Proofs.Ytiknkolclcdajaa.L

/- The plain side of numbers and texts as bytes: what the program's and the reference's PutNum, GetNum, PutText, GetText come to, and that the two are one. Condition: lists of bytes of at most 2^20 elements. -/
namespace Go.Proofs.Ytiknkolclcdajaa.L
open Go.RowKit Go.Proofs.YtiknkolclcdajaaW.PrintWords Go.Proofs.YtiknkolclcdajaaW.PrintLast Go.Proofs.YtiknkolclcdajaaW.PrintMore Go.Proofs.Ytiknkolclcdajaa.Q

/-- the bytes of a number, d + 1 of them at the most -/
def enc : Nat → Int → List Int
  | 0, x => [x % 256]
  | d + 1, x => if x > 127 then (x % 128 + 128) :: enc d (x / 128) else [x % 256]
theorem enc_len (d : Nat) (x : Int) : (enc d x).length ≤ d + 1 := by
  induction d generalizing x with
  | zero => simp [enc]
  | succ d ih =>
    unfold enc
    split
    · have := ih (x / 128); simp only [List.length_cons]; omega
    · simp

theorem and127 (x : Int) (h0 : 0 ≤ x) (h1 : x < 4611686018427387904) : Go.bits .and .i64 x 127 = x % 128 :=
  bits_mask .i64 62 (by decide) (fun n a b => by rw [IntKind.wrap_i64]; omega) 7 (by decide) x h0 h1
theorem and127b (x : Int) (h0 : 0 ≤ x) (h1 : x ≤ 255) : Go.bits .and .u8 x 127 = x % 128 :=
  bits_mask .u8 8 (by decide) wraps_u8 7 (by decide) x h0 (by omega)
theorem or128 (x : Int) (h0 : 0 ≤ x) (h1 : x < 128) : Go.bits .or .u8 x 128 = x + 128 := by
  have h := bits_join .u8 8 (by decide) wraps_u8 7 128 x (by decide) (by decide) (by decide) h0 h1 (by omega)
  have hc : Go.bits .or .u8 x 128 = Go.bits .or .u8 128 x := by
    obtain ⟨a, rfl⟩ := Int.eq_ofNat_of_zero_le h0
    have ha : a < 2 ^ 8 := by omega
    show Go.bits .or .u8 (a : Int) ((128 : Nat) : Int) = Go.bits .or .u8 ((128 : Nat) : Int) (a : Int)
    rw [(bits_nat .u8 8 (by decide) wraps_u8 a 128 ha (by decide)).2, (bits_nat .u8 8 (by decide) wraps_u8 128 a (by decide) ha).2, Nat.or_comm]
  rw [hc, h]
  omega
theorem or_join (i : Nat) (x y : Int) (hi : i ≤ 62) (h0 : 0 ≤ x) (h1 : x < 2 ^ i) (h2 : 0 ≤ y) (h3 : y % 2 ^ i = 0) (h4 : y < 4611686018427387904) : Go.bits .or .i64 x y = x + y := by
  have hw : ∀ n : Int, 0 ≤ n → n < 2 ^ 62 → IntKind.i64.wrap n = n := fun n a b => by rw [IntKind.wrap_i64]; omega
  have hp : (2 : Int) ^ i ≤ 2 ^ 62 := by
    have := Nat.pow_le_pow_right (n := 2) (by decide) hi
    exact_mod_cast this
  have h := bits_join .i64 62 (by decide) hw i y x h2 h3 (by omega) h0 h1 (by omega)
  have hc : Go.bits .or .i64 x y = Go.bits .or .i64 y x := by
    obtain ⟨a, rfl⟩ := Int.eq_ofNat_of_zero_le h0
    obtain ⟨b, rfl⟩ := Int.eq_ofNat_of_zero_le h2
    have ha : a < 2 ^ 62 := by omega
    have hb : b < 2 ^ 62 := by omega
    rw [(bits_nat .i64 62 (by decide) hw a b ha hb).2, (bits_nat .i64 62 (by decide) hw b a hb ha).2, Nat.or_comm]
  rw [hc, h]
  omega

theorem specPut_l0 (d : Nat) : ∀ (x : Int) (acc : List Int), 0 ≤ x → x < 128 ^ (d + 1) → x ≤ 9223372036854775807 → acc.length + d < 1000000 → Ev (fun k => spec_PutNum.l0 k x acc) (acc ++ enc d x) := by
  induction d with
  | zero =>
    intro x acc h0 h1 h2 h3
    refine ev_step (fun _ => rfl) (ev_neg (by omega) (ev_pos (by omega) (ev_now ?_)))
    simp [enc]
  | succ d ih =>
    intro x acc h0 h1 h2 h3
    refine ev_step (fun _ => rfl) ?_
    by_cases h : x > 127
    · have hd : wrap64 (Int.tdiv x 128) = x / 128 := by rw [Int.tdiv_eq_ediv_of_nonneg h0]; exact w64 (by omega) (by omega)
      have hm : (wrap64 ((Int.tmod x 128) + 128)) % 256 = x % 128 + 128 := by rw [Int.tmod_eq_emod_of_nonneg h0, w64 (by omega) (by omega)]; omega
      have hp : x / 128 < 128 ^ (d + 1) := by
        rw [Int.pow_succ] at h1
        omega
      refine ev_pos h (ev_pos (by omega) ?_)
      rw [hd, hm]
      refine ev_eq ?_ (ih (x / 128) (acc ++ [x % 128 + 128]) (by omega) hp (by omega) (by simp only [List.length_append, List.length_singleton]; omega))
      simp [enc, h]
    · refine ev_neg h (ev_pos (by omega) (ev_now ?_))
      simp [enc, h]
theorem implPut_l0 (d : Nat) : ∀ (x : Int) (acc : List Int), 0 ≤ x → x < 128 ^ (d + 1) → x < 4611686018427387904 → acc.length + d < 1000000 → Ev (fun k => impl_PutNum.l0 k x acc) (acc ++ enc d x) := by
  induction d with
  | zero =>
    intro x acc h0 h1 h2 h3
    refine ev_step (fun _ => rfl) (ev_neg (by omega) (ev_pos (by omega) (ev_now ?_)))
    simp [enc]
  | succ d ih =>
    intro x acc h0 h1 h2 h3
    refine ev_step (fun _ => rfl) ?_
    by_cases h : x > 127
    · have hm : Go.bits .or .u8 ((Go.bits .and .i64 x 127) % 256) 128 = x % 128 + 128 := by
        rw [and127 x h0 h2, or128 _ (by omega) (by omega)]; omega
      have hp : x / 128 < 128 ^ (d + 1) := by
        rw [Int.pow_succ] at h1
        omega
      refine ev_pos h (ev_pos (by omega) ?_)
      rw [hm]
      refine ev_eq ?_ (ih (x / 128) (acc ++ [x % 128 + 128]) (by omega) hp (by omega) (by simp only [List.length_append, List.length_singleton]; omega))
      simp [enc, h]
    · refine ev_neg h (ev_pos (by omega) (ev_now ?_))
      simp [enc, h]
/-- what PutNum comes to -/
def put (x : Int) : List Int := if 0 ≤ x ∧ x ≤ 2147483647 then enc 4 x else []
theorem specPut (x : Int) : Ev (fun k => spec_PutNum.f k x) (put x) := by
  unfold put
  refine ev_some rfl ?_
  by_cases h : 0 ≤ x ∧ x ≤ 2147483647
  · rw [if_pos h]
    have h1 : spec_l1In.f x 0 2147483647 = some true := by simp [spec_l1In.f, h.1, h.2]
    refine ev_some h1 (ev_pos rfl ?_)
    exact specPut_l0 4 x [] h.1 (by omega) (by omega) (by simp)
  · rw [if_neg h]
    have h1 : spec_l1In.f x 0 2147483647 = some false := by
      unfold spec_l1In.f
      by_cases h0 : x ≥ 0
      · rw [if_pos h0]; simp; omega
      · rw [if_neg h0]
    exact ev_some h1 (ev_neg (by simp) (ev_now rfl))
theorem implPut (x : Int) : Ev (fun k => impl_PutNum.f k x) (put x) := by
  unfold put
  by_cases h : 0 ≤ x ∧ x ≤ 2147483647
  · rw [if_pos h]
    have h1 : impl_within.f x 0 2147483647 = some true := by simp [impl_within.f, h.1, h.2]
    refine ev_some h1 (ev_pos rfl ?_)
    exact implPut_l0 4 x [] h.1 (by omega) (by omega) (by simp)
  · rw [if_neg h]
    have h1 : impl_within.f x 0 2147483647 = some false := by
      unfold impl_within.f
      by_cases h0 : x ≥ 0
      · rw [if_pos h0]; simp; omega
      · rw [if_neg h0]
    exact ev_some h1 (ev_neg (by simp) (ev_now rfl))
theorem put_len (x : Int) : (put x).length ≤ 5 := by
  unfold put
  split
  · exact enc_len 4 x
  · simp

/-- what GetNum comes to: c bytes may come yet, the first of them at p -/
def get : Nat → List Int → Int → Nat → Int → Int × Int × Bool
  | 0, _, _, _, _ => (0, 0, false)
  | c + 1, l, acc, j, p =>
    if p < (l.length : Int) then
      if rd l p < 128 then
        if j > 0 ∧ rd l p = 0 ∨ acc + rd l p * 128 ^ j > 2147483647 then (0, 0, false) else (acc + rd l p * 128 ^ j, p + 1, true)
      else get c l (acc + (rd l p - 128) * 128 ^ j) (j + 1) (p + 1)
    else (0, 0, false)
theorem rd_range {l : List Int} (hl : ∀ x ∈ l, 0 ≤ x ∧ x ≤ 255) (p : Int) : 0 ≤ rd l p ∧ rd l p ≤ 255 := by
  unfold rd
  rw [List.getD_eq_getElem?_getD]
  by_cases h : p.toNat < l.length
  · rw [List.getElem?_eq_getElem h]; exact hl _ (List.getElem_mem h)
  · rw [List.getElem?_eq_none (by omega)]; simp
theorem p128 (j : Nat) : (128 : Int) ^ j = 2 ^ (7 * j) := by rw [Int.pow_mul]; rfl
theorem shl_eq (b : Int) (j : Nat) (h0 : 0 ≤ b) (h1 : b < 128) (hj : j < 5) : shl .i64 b (7 * (j : Int)) = b * 128 ^ j := by
  have e : 7 * (j : Int) = ((7 * j : Nat) : Int) := by omega
  have hp : (128 : Int) ^ j ≤ 128 ^ 4 := by
    have := Nat.pow_le_pow_right (n := 128) (by decide) (show j ≤ 4 by omega)
    exact_mod_cast this
  have hp0 : (0 : Int) < 128 ^ j := Int.pow_pos (by decide)
  have hb : b * 128 ^ j ≤ 127 * 128 ^ 4 := Int.le_trans (Int.mul_le_mul_of_nonneg_right (by omega) (by omega)) (Int.mul_le_mul_of_nonneg_left hp (by decide))
  have hb0 : 0 ≤ b * 128 ^ j := Int.mul_nonneg h0 (by omega)
  unfold shl
  rw [e, Int.toNat_natCast, Nat.min_eq_left (by simp [IntKind.bits]; omega), ← p128, IntKind.wrap_i64]
  omega
theorem or_eq (acc b : Int) (j : Nat) (h0 : 0 ≤ b) (h1 : b < 128) (hj : j < 5) (ha : 0 ≤ acc) (hb : acc < 128 ^ j) : Go.bits .or .i64 acc (b * 128 ^ j) = acc + b * 128 ^ j := by
  have hp : (128 : Int) ^ j ≤ 128 ^ 4 := by
    have := Nat.pow_le_pow_right (n := 128) (by decide) (show j ≤ 4 by omega)
    exact_mod_cast this
  have hp0 : (0 : Int) < 128 ^ j := Int.pow_pos (by decide)
  have hb2 : b * 128 ^ j ≤ 127 * 128 ^ 4 := Int.le_trans (Int.mul_le_mul_of_nonneg_right (by omega) (by omega)) (Int.mul_le_mul_of_nonneg_left hp (by decide))
  have hb0 : 0 ≤ b * 128 ^ j := Int.mul_nonneg h0 (by omega)
  refine or_join (7 * j) acc _ (by omega) ha (by rw [← p128]; exact hb) hb0 ?_ (by omega)
  rw [← p128]
  exact Int.mul_emod_left b _
theorem acc_lt (acc b : Int) (j : Nat) (h1 : b < 128) (hb : acc < 128 ^ j) : acc + b * 128 ^ j < 128 ^ (j + 1) := by
  have hp0 : (0 : Int) < 128 ^ j := Int.pow_pos (by decide)
  have : b * 128 ^ j ≤ 127 * 128 ^ j := Int.mul_le_mul_of_nonneg_right (by omega) (by omega)
  rw [Int.pow_succ]
  omega

theorem implGet_l0 (l : List Int) (hl : ∀ x ∈ l, 0 ≤ x ∧ x ≤ 255) (hn : l.length ≤ 1048576) (a : Int) (ha : 0 ≤ a) (h2 : a ≤ 9223372036854775807) : ∀ (c j : Nat) (acc : Int), c + j = 5 → 0 ≤ acc → acc < 128 ^ j →
    Ev (fun k => impl_GetNum.l0 k l a acc (a + j)) (get c l acc j (a + j)) := by
  intro c
  induction c with
  | zero =>
    intro j acc hc h0 h1
    obtain rfl : j = 5 := by omega
    refine ev_step (fun _ => by rw [impl_GetNum.l0]) ?_
    refine ev_ite (fun h => ?_) (fun h => ?_)
    · have e : decide (a + ((5 : Nat) : Int) < wrap64 (a + 5)) = false := by
        rw [w64 (by omega) (by omega)]
        exact decide_eq_false (by omega)
      rw [e]
      refine ev_step (fun _ => by rw [impl_GetNum.j1]) ?_
      exact ev_neg (by simp) (ev_now rfl)
    · refine ev_step (fun _ => by rw [impl_GetNum.j1]) ?_
      exact ev_neg (by simp) (ev_now rfl)
  | succ c ih =>
    intro j acc hc h0 h1
    refine ev_step (fun _ => by rw [impl_GetNum.l0]) ?_
    refine ev_ite (fun h => ?_) (fun h => ?_)
    · have e1 : decide (a + (j : Int) < wrap64 (a + 5)) = true := by
        rw [w64 (by omega) (by omega)]
        exact decide_eq_true (by omega)
      have e2 : wrap64 (a + (j : Int) - a) = (j : Int) := by rw [w64 (by omega) (by omega)]; omega
      have hb := rd_range hl (a + j)
      have e3 : wrap64 (Go.bits .and .u8 (rd l (a + j)) 127) = rd l (a + j) % 128 := by rw [and127b _ hb.1 hb.2, w64 (by omega) (by omega)]
      have e11 : wrap64 (7 * (j : Int)) = 7 * (j : Int) := w64 (by omega) (by omega)
      have e4 : shl .i64 (rd l (a + j) % 128) (7 * (j : Int)) = (rd l (a + j) % 128) * 128 ^ j := shl_eq _ j (by omega) (by omega) (by omega)
      have e5 : Go.bits .or .i64 acc ((rd l (a + j) % 128) * 128 ^ j) = acc + (rd l (a + j) % 128) * 128 ^ j := or_eq acc _ j (by omega) (by omega) (by omega) h0 h1
      have hp0 : (0 : Int) < 128 ^ j := Int.pow_pos (by decide)
      have e9 : wrap64 (a + (j : Int) + 1) = a + (j : Int) + 1 := w64 (by omega) (by omega)
      rw [e1]
      refine ev_step (fun _ => by rw [impl_GetNum.j1]) ?_
      refine ev_pos rfl (ev_pos (by omega) (ev_pos h ?_))
      simp only [e2, e3, e4, e5, e9, e11]
      clear e1 e2 e3 e4 e5 e9 e11
      refine ev_pos (by omega) ?_
      simp only [get, if_pos h]
      refine ev_ite (fun g => ?_) (fun g => ?_)
      · have e6 : rd l (a + j) % 128 = rd l (a + j) := by omega
        simp only [e6, if_pos g]
        refine ev_ite (fun q => ev_now ?_) (fun q => ?_)
        · rw [if_pos (.inr q)]
        · refine ev_ite (fun q1 => ?_) (fun q1 => ?_)
          · refine ev_ite (fun q2 => ev_now ?_) (fun q2 => ev_now ?_)
            · rw [if_pos (.inl ⟨by omega, q2⟩)]
            · rw [if_neg (by omega)]
          · refine ev_now ?_
            rw [if_neg (by omega)]
      · have e6 : rd l (a + j) % 128 = rd l (a + j) - 128 := by omega
        simp only [e6, if_neg g]
        have e8 : a + (j : Int) + 1 = a + ((j + 1 : Nat) : Int) := by omega
        rw [e8]
        exact ih (j + 1) _ (by omega) (by have := Int.mul_nonneg (show 0 ≤ rd l (a + j) - 128 by omega) (show 0 ≤ (128 : Int) ^ j by omega); omega) (acc_lt _ _ _ (by omega) h1)
    · refine ev_step (fun _ => by rw [impl_GetNum.j1]) ?_
      refine ev_neg (by simp) (ev_now ?_)
      simp only [get, if_neg h]
theorem specGet_l0 (l : List Int) (hl : ∀ x ∈ l, 0 ≤ x ∧ x ≤ 255) (hn : l.length ≤ 1048576) (a : Int) (ha : 0 ≤ a) (h2 : a ≤ 9223372036854775807) : ∀ (c j : Nat) (acc : Int), c + j = 5 → 0 ≤ acc → acc < 128 ^ j →
    Ev (fun k => spec_GetNum.l0 k l a acc (j : Int)) (get c l acc j (a + j)) := by
  intro c
  induction c with
  | zero =>
    intro j acc hc h0 h1
    obtain rfl : j = 5 := by omega
    refine ev_step (fun _ => by rw [spec_GetNum.l0]) ?_
    exact ev_neg (by omega) (ev_now rfl)
  | succ c ih =>
    intro j acc hc h0 h1
    refine ev_step (fun _ => by rw [spec_GetNum.l0]) ?_
    refine ev_pos (by omega) (ev_neg (by omega) ?_)
    have e0 : wrap64 ((l.length : Int) - (j : Int)) = (l.length : Int) - (j : Int) := w64 (by omega) (by omega)
    rw [e0]
    refine ev_step (fun _ => by rw [spec_GetNum.j1]) ?_
    refine ev_ite (fun h => ?_) (fun h => ?_)
    · have h' := of_decide_eq_true h
      refine ev_now ?_
      simp only [get, if_neg (show ¬ a + (j : Int) < (l.length : Int) by omega)]
    · have h' : ¬ a ≥ (l.length : Int) - (j : Int) := fun q => h (decide_eq_true q)
      have hlt : a + (j : Int) < (l.length : Int) := by omega
      have e2 : wrap64 (a + (j : Int)) = a + (j : Int) := w64 (by omega) (by omega)
      have hb := rd_range hl (a + j)
      have e3 : wrap64 (rd l (a + j)) = rd l (a + j) := w64 (by omega) (by omega)
      have e3b : Int.tmod (rd l (a + j)) 128 = rd l (a + j) % 128 := Int.tmod_eq_emod_of_nonneg (by omega)
      have e11 : wrap64 (7 * (j : Int)) = 7 * (j : Int) := w64 (by omega) (by omega)
      have e4 : shl .i64 (rd l (a + j) % 128) (7 * (j : Int)) = (rd l (a + j) % 128) * 128 ^ j := shl_eq _ j (by omega) (by omega) (by omega)
      have e5 : Go.bits .or .i64 acc ((rd l (a + j) % 128) * 128 ^ j) = acc + (rd l (a + j) % 128) * 128 ^ j := or_eq acc _ j (by omega) (by omega) (by omega) h0 h1
      have hp0 : (0 : Int) < 128 ^ j := Int.pow_pos (by decide)
      have e9 : wrap64 (a + (j : Int) + 1) = a + (j : Int) + 1 := w64 (by omega) (by omega)
      have e10 : wrap64 ((j : Int) + 1) = ((j + 1 : Nat) : Int) := by rw [w64 (by omega) (by omega)]; omega
      simp only [e2, e3, e3b, e4, e5, e9, e10, e11]
      clear e0 e2 e3 e3b e4 e5 e9 e10 e11
      refine ev_pos (by omega) ?_
      refine ev_pos hlt ?_
      refine ev_pos (by omega) ?_
      simp only [get, if_pos hlt]
      refine ev_ite (fun g => ?_) (fun g => ?_)
      · have e6 : rd l (a + j) % 128 = rd l (a + j) := by omega
        simp only [e6, if_pos g]
        refine ev_ite (fun q1 => ?_) (fun q1 => ?_)
        · refine ev_ite (fun q2 => ev_now ?_) (fun q2 => ev_ite (fun q => ev_now ?_) (fun q => ev_now ?_))
          · rw [if_pos (.inl ⟨by omega, q2⟩)]
          · rw [if_pos (.inr q)]
          · rw [if_neg (by omega)]
        · refine ev_ite (fun q => ev_now ?_) (fun q => ev_now ?_)
          · rw [if_pos (.inr q)]
          · rw [if_neg (by omega)]
      · have e6 : rd l (a + j) % 128 = rd l (a + j) - 128 := by omega
        simp only [e6, if_neg g]
        have e8 : a + (j : Int) + 1 = a + ((j + 1 : Nat) : Int) := by omega
        rw [e8]
        exact ih (j + 1) _ (by omega) (by have := Int.mul_nonneg (show 0 ≤ rd l (a + j) - 128 by omega) (show 0 ≤ (128 : Int) ^ j by omega); omega) (acc_lt _ _ _ (by omega) h1)
/-- what GetNum comes to -/
def getNum (l : List Int) (a : Int) : Int × Int × Bool := if a < 0 then (0, 0, false) else get 5 l 0 0 a
theorem implGet (l : List Int) (hl : ∀ x ∈ l, 0 ≤ x ∧ x ≤ 255) (hn : l.length ≤ 1048576) (a : Int) (h2 : a ≤ 9223372036854775807) : Ev (fun k => impl_GetNum.f k l a) (getNum l a) := by
  unfold getNum
  refine ev_ite (fun h => ev_now ?_) (fun h => ?_)
  · rw [if_pos h]
  · rw [if_neg h]
    have := implGet_l0 l hl hn a (by omega) h2 5 0 0 rfl (by omega) (by decide)
    simpa using this
theorem specGet (l : List Int) (hl : ∀ x ∈ l, 0 ≤ x ∧ x ≤ 255) (hn : l.length ≤ 1048576) (a : Int) (h2 : a ≤ 9223372036854775807) : Ev (fun k => spec_GetNum.f k l a) (getNum l a) := by
  unfold getNum
  show Ev (fun k => spec_GetNum.l0 k l a 0 0) _
  by_cases h : a < 0
  · rw [if_pos h]
    refine ev_step (fun _ => by rw [spec_GetNum.l0]) ?_
    refine ev_pos (by omega) (ev_pos h ?_)
    refine ev_step (fun _ => by rw [spec_GetNum.j1]) ?_
    exact ev_pos rfl (ev_now rfl)
  · rw [if_neg h]
    have := specGet_l0 l hl hn a (by omega) h2 5 0 0 rfl (by omega) (by decide)
    simpa using this

theorem get_ok (l : List Int) (hl : ∀ x ∈ l, 0 ≤ x ∧ x ≤ 255) : ∀ (c : Nat) (acc : Int) (j : Nat) (p : Int), 0 ≤ p → 0 ≤ acc → (get c l acc j p).2.2 = true →
    0 ≤ (get c l acc j p).1 ∧ (get c l acc j p).1 ≤ 2147483647 ∧ p < (get c l acc j p).2.1 ∧ (get c l acc j p).2.1 ≤ (l.length : Int) := by
  intro c
  induction c with
  | zero => intro acc j p _ _ h; simp [get] at h
  | succ c ih =>
    intro acc j p hp ha h
    have hb := rd_range hl p
    have hp0 : (0 : Int) < 128 ^ j := Int.pow_pos (by decide)
    unfold get at h ⊢
    by_cases h1 : p < (l.length : Int)
    · simp only [if_pos h1] at h ⊢
      by_cases h2 : rd l p < 128
      · simp only [if_pos h2] at h ⊢
        have hm : 0 ≤ rd l p * 128 ^ j := Int.mul_nonneg hb.1 (by omega)
        by_cases h3 : j > 0 ∧ rd l p = 0 ∨ acc + rd l p * 128 ^ j > 2147483647
        · simp [if_pos h3] at h
        · simp only [if_neg h3]
          refine ⟨by omega, by omega, by omega, by omega⟩
      · simp only [if_neg h2] at h ⊢
        have hm : 0 ≤ (rd l p - 128) * 128 ^ j := Int.mul_nonneg (by omega) (by omega)
        have := ih _ _ _ (show 0 ≤ p + 1 by omega) (show 0 ≤ acc + (rd l p - 128) * 128 ^ j by omega) h
        exact ⟨this.1, this.2.1, by omega, this.2.2.2⟩
    · simp [if_neg h1] at h
theorem getNum_ok (l : List Int) (hl : ∀ x ∈ l, 0 ≤ x ∧ x ≤ 255) (a : Int) (h : (getNum l a).2.2 = true) :
    0 ≤ (getNum l a).1 ∧ (getNum l a).1 ≤ 2147483647 ∧ 0 ≤ a ∧ a < (getNum l a).2.1 ∧ (getNum l a).2.1 ≤ (l.length : Int) := by
  unfold getNum at h ⊢
  by_cases h0 : a < 0
  · simp [if_pos h0] at h
  · simp only [if_neg h0] at h ⊢
    have := get_ok l hl 5 0 0 a (by omega) (by omega) h
    exact ⟨this.1, this.2.1, by omega, this.2.2.1, this.2.2.2⟩
/-- what GetText comes to -/
def getText (l : List Int) (a : Int) : ByteArray × Int × Bool :=
  if (getNum l a).2.2 = true then
    if (getNum l a).1 > (l.length : Int) - (getNum l a).2.1 then (⟨#[]⟩, 0, false)
    else (strOfNums ((l.take ((getNum l a).2.1 + (getNum l a).1).toNat).drop (getNum l a).2.1.toNat), (getNum l a).2.1 + (getNum l a).1, true)
  else (⟨#[]⟩, 0, false)
theorem text_tail (l : List Int) (hl : ∀ x ∈ l, 0 ≤ x ∧ x ≤ 255) (hn : l.length ≤ 1048576) (a : Int) :
    Ev (fun _ => if (getNum l a).2.2 = true then (if (getNum l a).1 > (wrap64 ((l.length : Int) - (getNum l a).2.1)) then (some ((⟨#[]⟩ : ByteArray), (0 : Int), false)) else (if 0 ≤ (getNum l a).2.1 then (if (getNum l a).2.1 ≤ (wrap64 ((getNum l a).2.1 + (getNum l a).1)) then (if (wrap64 ((getNum l a).2.1 + (getNum l a).1)) ≤ (l.length : Int) then (some (strOfNums ((l.take ((wrap64 ((getNum l a).2.1 + (getNum l a).1)) : Int).toNat).drop ((getNum l a).2.1 : Int).toNat), wrap64 ((getNum l a).2.1 + (getNum l a).1), true)) else (none)) else (none)) else (none))) else (some ((⟨#[]⟩ : ByteArray), 0, false))) (getText l a) := by
  unfold getText
  refine ev_ite (fun h => ?_) (fun h => ev_now ?_)
  · rw [if_pos h]
    have g := getNum_ok l hl a h
    have e1 : wrap64 ((l.length : Int) - (getNum l a).2.1) = (l.length : Int) - (getNum l a).2.1 := w64 (by omega) (by omega)
    have e2 : wrap64 ((getNum l a).2.1 + (getNum l a).1) = (getNum l a).2.1 + (getNum l a).1 := w64 (by omega) (by omega)
    simp only [e1, e2]
    refine ev_ite (fun q => ev_now ?_) (fun q => ?_)
    · rw [if_pos q]
    · rw [if_neg q]
      exact ev_pos (by omega) (ev_pos (by omega) (ev_pos (by omega) (ev_now rfl)))
  · rw [if_neg h]
theorem implText (l : List Int) (hl : ∀ x ∈ l, 0 ≤ x ∧ x ≤ 255) (hn : l.length ≤ 1048576) (a : Int) (h2 : a ≤ 9223372036854775807) : Ev (fun k => impl_GetText.f k l a) (getText l a) :=
  ev_bind (implGet l hl hn a h2) (text_tail l hl hn a)
theorem specText (l : List Int) (hl : ∀ x ∈ l, 0 ≤ x ∧ x ≤ 255) (hn : l.length ≤ 1048576) (a : Int) (h2 : a ≤ 9223372036854775807) : Ev (fun k => spec_GetText.f k l a) (getText l a) :=
  ev_bind (specGet l hl hn a h2) (text_tail l hl hn a)

/-! the laws' own words on bytes -/
/-- what markByteS leaves: the numbers from q on, as bytes -/
def marked (q n : Nat) : List Int := (List.range n).map fun i => ((q + i : Nat) : Int) % 256
theorem marked_len (q n : Nat) : (marked q n).length = n := by simp [marked]
end Go.Proofs.Ytiknkolclcdajaa.L

/- What is drawn: a draw comes to its end, and its answer keeps to bounds. Condition: a cursor that stands at no place below 0. -/
set_option linter.unusedVariables false
namespace Go.Proofs.Ytiknkolclcdajaa.L
open Go.RowKit Go.Proofs.YtiknkolclcdajaaW.PrintWords Go.Proofs.YtiknkolclcdajaaW.PrintLast Go.Proofs.YtiknkolclcdajaaW.PrintMore Go.Proofs.Ytiknkolclcdajaa.Q

/-- it comes to an answer, at enough rounds, of which P is true -/
def Dr {α : Type} (f : Nat → Option α) (P : α → Prop) : Prop := ∃ r, Ev f r ∧ P r
theorem dr_now {α : Type} {r : α} {P : α → Prop} (h : P r) : Dr (fun _ => some r) P := ⟨r, ev_now rfl, h⟩
theorem dr_of {α : Type} {f : Nat → Option α} {r : α} {P : α → Prop} (h : Ev f r) (k : P r) : Dr f P := ⟨r, h, k⟩
theorem dr_bind {α β : Type} {g : Nat → Option α} {f : Nat → α → Option β} {P : α → Prop} {Q : β → Prop} (h : Dr g P) (k : ∀ a, P a → Dr (fun n => f n a) Q) : Dr (fun n => (g n).bind (f n)) Q := by
  obtain ⟨a, ha, pa⟩ := h
  obtain ⟨b, hb, qb⟩ := k a pa
  exact ⟨b, ev_bind ha hb, qb⟩
theorem dr_some {α β : Type} {g : Option α} {f : Nat → α → Option β} {P : α → Prop} {Q : β → Prop} (h : ∃ a, g = some a ∧ P a) (k : ∀ a, P a → Dr (fun n => f n a) Q) : Dr (fun n => g.bind (f n)) Q := by
  obtain ⟨a, rfl, pa⟩ := h
  exact k a pa
theorem dr_eq {α β : Type} {g : Option α} {f : Nat → α → Option β} {a : α} {Q : β → Prop} (h : g = some a) (k : Dr (fun n => f n a) Q) : Dr (fun n => g.bind (f n)) Q := by
  subst h
  exact k
theorem dr_pos {α : Type} {c : Prop} [Decidable c] {f g : Nat → Option α} {P : α → Prop} (h : c) (k : Dr f P) : Dr (fun n => if c then f n else g n) P := by
  simpa only [if_pos h] using k
theorem dr_neg {α : Type} {c : Prop} [Decidable c] {f g : Nat → Option α} {P : α → Prop} (h : ¬ c) (k : Dr g P) : Dr (fun n => if c then f n else g n) P := by
  simpa only [if_neg h] using k
theorem dr_ite {α : Type} {c : Prop} [Decidable c] {f g : Nat → Option α} {P : α → Prop} (h : c → Dr f P) (k : ¬ c → Dr g P) : Dr (fun n => if c then f n else g n) P := by
  by_cases hc : c
  · exact dr_pos hc (h hc)
  · exact dr_neg hc (k hc)
theorem dr_step {α : Type} {g f : Nat → Option α} {P : α → Prop} (h : ∀ k, g (k + 1) = f k) (k : Dr f P) : Dr g P := by
  obtain ⟨r, hr, p⟩ := k
  exact ⟨r, ev_step h hr, p⟩
theorem dr_mono {α : Type} {f : Nat → Option α} {P Q : α → Prop} (h : Dr f P) (k : ∀ a, P a → Q a) : Dr f Q := by
  obtain ⟨r, hr, p⟩ := h
  exact ⟨r, hr, k r p⟩

theorem and255 (n : Int) : Go.bits .and .i64 n 255 = n % 256 := by
  have h255 : (BitVec.ofInt 64 255).toNat = 2 ^ 8 - 1 := by decide
  have key : (BitVec.ofInt 64 n &&& BitVec.ofInt 64 255).toNat = (n % ((2 ^ 64 : Nat) : Int)).toNat % 2 ^ 8 := by
    rw [BitVec.toNat_and, BitVec.toNat_ofInt, h255, Nat.and_two_pow_sub_one_eq_mod]
  show IntKind.i64.wrap ((BitVec.ofInt 64 n &&& BitVec.ofInt 64 255).toNat : Nat) = n % 256
  rw [key, IntKind.wrap_i64]
  omega
/-- a cursor's place is one that it may stand at -/
def okC (i : Int) : Prop := 0 ≤ i ∧ i ≤ 1048576
theorem okC_zero : okC 0 := by unfold okC; omega
theorem l1New_l0 (l : List Int) (hl : l.length ≤ 1048576) : ∀ (d i : Nat) (h : Int), i + d = l.length → Dr (fun k => spec_l1New.l0 k l h (i : Int)) (fun r => r.1 = l ∧ okC r.2.1) := by
  intro d
  induction d with
  | zero => intro i h q; exact dr_step (fun _ => rfl) (dr_neg (by omega) (dr_now ⟨rfl, okC_zero⟩))
  | succ d ih =>
    intro i h q
    have e : wrap64 ((i : Int) + 1) = ((i + 1 : Nat) : Int) := by rw [w64 (by omega) (by omega)]; omega
    refine dr_step (fun _ => rfl) (dr_pos (by omega) (dr_ite (fun _ => dr_pos (by omega) ?_) (fun _ => dr_now ⟨rfl, okC_zero⟩)))
    rw [e]
    exact ih (i + 1) _ (by omega)
theorem l1New (l : List Int) (hl : l.length ≤ 1048576) : Dr (fun k => spec_l1New.f k l) (fun r => r.1 = l ∧ okC r.2.1) := l1New_l0 l hl l.length 0 _ (by omega)
theorem l1Byte (l : List Int) (hl : l.length ≤ 1048576) (i h : Int) (hi : okC i) : ∃ r, spec_l1Byte.f l i h = some r ∧ 0 ≤ r.1 ∧ r.1 ≤ 255 ∧ okC r.2.1 := by
  unfold okC at hi
  unfold spec_l1Byte.f
  simp only [and255]
  split
  · rw [if_pos hi.1]
    refine ⟨_, rfl, ?_, ?_, ?_⟩
    · show 0 ≤ _ % 256
      omega
    · show _ % 256 ≤ 255
      omega
    · show 0 ≤ wrap64 (i + 1) ∧ wrap64 (i + 1) ≤ 1048576
      rw [w64 (by omega) (by omega)]
      omega
  · refine ⟨_, rfl, ?_, ?_, hi⟩
    · show 0 ≤ _ % 256
      omega
    · show _ % 256 ≤ 255
      omega
theorem l1Below (l : List Int) (hl : l.length ≤ 1048576) (i h n : Int) (hi : okC i) (hn : n ≤ 2147483647) : ∃ r, spec_l1Below.f l i h n = some r ∧ 0 ≤ r.1 ∧ (0 < n → r.1 < n) ∧ okC r.2.1 := by
  unfold spec_l1Below.f
  split
  · exact ⟨_, rfl, by show (0 : Int) ≤ 0; omega, fun _ => by omega, hi⟩
  · split
    · obtain ⟨r, hr, h0, h1, h2⟩ := l1Byte l hl i h hi
      rw [hr, Option.bind_some, if_neg (by omega)]
      refine ⟨_, rfl, ?_, fun _ => ?_, h2⟩
      · show 0 ≤ Int.tmod r.1 n
        rw [Int.tmod_eq_emod_of_nonneg h0]
        exact Int.emod_nonneg _ (by omega)
      · show Int.tmod r.1 n < n
        rw [Int.tmod_eq_emod_of_nonneg h0]
        exact Int.emod_lt_of_pos _ (by omega)
    · obtain ⟨a, ha, a0, a1, ai⟩ := l1Byte l hl i h hi
      obtain ⟨b, hb, b0, b1, bi⟩ := l1Byte l hl a.2.1 a.2.2 ai
      obtain ⟨c, hc, c0, c1, ci⟩ := l1Byte l hl b.2.1 b.2.2 bi
      obtain ⟨d, hd, d0, d1, di⟩ := l1Byte l hl c.2.1 c.2.2 ci
      rw [ha, Option.bind_some, hb, Option.bind_some, hc, Option.bind_some, hd, Option.bind_some, if_neg (by omega)]
      have e1 : wrap64 (a.1 * 16777216) = a.1 * 16777216 := w64 (by omega) (by omega)
      have e2 : wrap64 (b.1 * 65536) = b.1 * 65536 := w64 (by omega) (by omega)
      have e3 : wrap64 (c.1 * 256) = c.1 * 256 := w64 (by omega) (by omega)
      have e4 : wrap64 (a.1 * 16777216 + b.1 * 65536) = a.1 * 16777216 + b.1 * 65536 := w64 (by omega) (by omega)
      have e5 : wrap64 (a.1 * 16777216 + b.1 * 65536 + c.1 * 256) = a.1 * 16777216 + b.1 * 65536 + c.1 * 256 := w64 (by omega) (by omega)
      have e6 : wrap64 (a.1 * 16777216 + b.1 * 65536 + c.1 * 256 + d.1) = a.1 * 16777216 + b.1 * 65536 + c.1 * 256 + d.1 := w64 (by omega) (by omega)
      rw [e1, e2, e3, e4, e5, e6]
      refine ⟨_, rfl, ?_, fun _ => ?_, di⟩
      · show 0 ≤ Int.tmod _ n
        rw [Int.tmod_eq_emod_of_nonneg (by omega)]
        exact Int.emod_nonneg _ (by omega)
      · show Int.tmod _ n < n
        rw [Int.tmod_eq_emod_of_nonneg (by omega)]
        exact Int.emod_lt_of_pos _ (by omega)
theorem l1Once (l : List Int) (hl : l.length ≤ 1048576) (i h n : Int) (hi : okC i) (hn : n ≤ 2147483647) : ∃ r, spec_l1Once.f l i h n = some r ∧ okC r.2.1 := by
  obtain ⟨r, hr, _, _, h2⟩ := l1Below l hl i h n hi hn
  unfold spec_l1Once.f
  rw [hr, Option.bind_some]
  exact ⟨_, rfl, h2⟩
theorem l1PickInt (l : List Int) (hl : l.length ≤ 1048576) (i h : Int) (xs : List Int) (hi : okC i) (h0 : 0 < xs.length) (hn : xs.length ≤ 1048576) : ∃ r, spec_l1PickInt.f l i h xs = some r ∧ r.1 ∈ xs ∧ okC r.2.1 := by
  obtain ⟨r, hr, r0, r1, h2⟩ := l1Below l hl i h (xs.length : Int) hi (by omega)
  have r1 := r1 (by omega)
  unfold spec_l1PickInt.f
  rw [hr, Option.bind_some, if_pos r0, if_pos r1]
  refine ⟨_, rfl, ?_, h2⟩
  obtain ⟨j, hj⟩ := Int.eq_ofNat_of_zero_le r0
  show rd xs r.1 ∈ xs
  rw [hj]
  have : j < xs.length := by omega
  show rd xs (j : Int) ∈ xs
  rw [rd_eq xs j this]
  exact List.getElem_mem _
end Go.Proofs.Ytiknkolclcdajaa.L

/- The plain side of numbers within bounds: program and reference come to one answer. No condition. -/
namespace Go.Proofs.Ytiknkolclcdajaa.L
open Go.RowKit Go.Proofs.YtiknkolclcdajaaW.PrintWords Go.Proofs.YtiknkolclcdajaaW.PrintLast Go.Proofs.YtiknkolclcdajaaW.PrintMore Go.Proofs.Ytiknkolclcdajaa.Q

/-- is a number within bounds -/
def inb (x a b : Int) : Bool := decide (a ≤ x) && decide (x ≤ b)
theorem specIn (x a b : Int) : spec_l1In.f x a b = some (inb x a b) := by
  unfold spec_l1In.f inb
  by_cases h : x ≥ a
  · rw [if_pos h]; simp [show a ≤ x from h]
  · rw [if_neg h]; simp [show ¬ a ≤ x from h]
theorem implIn (x a b : Int) : impl_within.f x a b = some (inb x a b) := by
  unfold impl_within.f inb
  by_cases h : x ≥ a
  · rw [if_pos h]; simp [show a ≤ x from h]
  · rw [if_neg h]; simp [show ¬ a ≤ x from h]
theorem inb_true {x a b : Int} : inb x a b = true ↔ a ≤ x ∧ x ≤ b := by simp [inb]
theorem ev_and {g : Nat → Option Bool} {c d : Bool} (h : c = true → Ev g d) : Ev (fun n => if c = true then (g n) else some false) (c && d) := by
  cases c with
  | false => exact ev_neg (by simp) (ev_now rfl)
  | true => exact ev_pos rfl (by simpa using h rfl)

end Go.Proofs.Ytiknkolclcdajaa.L

/- The plain side of right texts: program and reference come to one answer. Condition: texts of at most 2^63 - 1 bytes, as any text that is read. -/
namespace Go.Proofs.Ytiknkolclcdajaa.L
open Go.RowKit Go.Proofs.YtiknkolclcdajaaW.PrintWords Go.Proofs.YtiknkolclcdajaaW.PrintLast Go.Proofs.YtiknkolclcdajaaW.PrintMore Go.Proofs.Ytiknkolclcdajaa.Q

/-- may a byte stand in a text -/
def okB (b : Int) : Prop := 97 ≤ b ∧ b ≤ 122 ∨ 48 ≤ b ∧ b ≤ 57 ∨ b = 32
instance (b : Int) : Decidable (okB b) := by unfold okB; infer_instance
/-- are all bytes from i on right -/
def okFrom (s : ByteArray) : Nat → Nat → Bool
  | 0, _ => true
  | d + 1, i => decide (okB (bt s i)) && okFrom s d (i + 1)
/-- what wordsOk comes to -/
def words (s : ByteArray) : Bool := okFrom s s.size 0 && decide ((s.size : Int) ≤ 30)
theorem specText_l0 (s : ByteArray) (hs : s.size ≤ 9223372036854775807) : ∀ (d i : Nat), i + d = s.size → Ev (fun k => spec_l2Text.l0 k s (i : Int)) (okFrom s d i && decide ((s.size : Int) ≤ 30)) := by
  intro d
  induction d with
  | zero => intro i h; exact ev_step (fun _ => rfl) (ev_neg (by omega) (ev_now (by simp [okFrom])))
  | succ d ih =>
    intro i h
    have e : wrap64 ((i : Int) + 1) = ((i + 1 : Nat) : Int) := by rw [w64 (by omega) (by omega)]; omega
    have cont : okB (bt s i) → Ev (fun k => spec_l2Text.l0 k s (wrap64 ((i : Int) + 1))) (okFrom s (d + 1) i && decide ((s.size : Int) ≤ 30)) := fun q => by rw [e]; simpa [okFrom, q] using ih (i + 1) (by omega)
    have stop : ¬ okB (bt s i) → Ev (fun _ => some false) (okFrom s (d + 1) i && decide ((s.size : Int) ≤ 30)) := fun q => ev_now (by simp [okFrom, q])
    refine ev_step (fun _ => rfl) (ev_pos (by omega) (ev_pos (by omega) ?_))
    repeat' refine ev_ite (fun _ => ?_) (fun _ => ?_)
    all_goals first | (refine cont ?_; unfold okB; omega) | (refine stop ?_; unfold okB; omega)
theorem implText_l0 (s : ByteArray) (hs : s.size ≤ 9223372036854775807) : ∀ (d i : Nat), i + d = s.size → Ev (fun k => impl_wordsOk.l0 k s (i : Int)) (okFrom s d i && decide ((s.size : Int) ≤ 30)) := by
  intro d
  induction d with
  | zero => intro i h; exact ev_step (fun _ => rfl) (ev_neg (by omega) (ev_now (by simp [okFrom])))
  | succ d ih =>
    intro i h
    have e : wrap64 ((i : Int) + 1) = ((i + 1 : Nat) : Int) := by rw [w64 (by omega) (by omega)]; omega
    have cont : okB (bt s i) → Ev (fun k => impl_wordsOk.l0 k s (wrap64 ((i : Int) + 1))) (okFrom s (d + 1) i && decide ((s.size : Int) ≤ 30)) := fun q => by rw [e]; simpa [okFrom, q] using ih (i + 1) (by omega)
    have stop : ¬ okB (bt s i) → Ev (fun _ => some false) (okFrom s (d + 1) i && decide ((s.size : Int) ≤ 30)) := fun q => ev_now (by simp [okFrom, q])
    refine ev_step (fun _ => rfl) (ev_pos (by omega) (ev_pos (by omega) ?_))
    repeat' refine ev_ite (fun _ => ?_) (fun _ => ?_)
    all_goals first | (refine cont ?_; unfold okB; omega) | (refine stop ?_; unfold okB; omega)
theorem specWords (s : ByteArray) (hs : s.size ≤ 9223372036854775807) : Ev (fun k => spec_l2Text.f k s) (words s) := specText_l0 s hs s.size 0 (by omega)
theorem implWords (s : ByteArray) (hs : s.size ≤ 9223372036854775807) : Ev (fun k => impl_wordsOk.f k s) (words s) := implText_l0 s hs s.size 0 (by omega)
theorem ev_last {g : Nat → Option Bool} {d : Bool} (h : Ev g d) : Ev (fun n => (g n).bind fun t => some t) d := Ev.bind h (Ev.now d)
end Go.Proofs.Ytiknkolclcdajaa.L

/- The plain side of commands that are right: program and reference come to one answer. Condition: texts of at most 2^63 - 1 bytes. -/
namespace Go.Proofs.Ytiknkolclcdajaa.L
open Go.RowKit Go.Proofs.YtiknkolclcdajaaW.PrintWords Go.Proofs.YtiknkolclcdajaaW.PrintLast Go.Proofs.YtiknkolclcdajaaW.PrintMore Go.Proofs.Ytiknkolclcdajaa.Q

/-- what CmdOk comes to -/
def cmdOk (w s o a b c : Int) (k t : ByteArray) : Bool :=
  if w = -1 then (w == (-1) && (s == 0 && (o == 0 && (a == 0 && (b == 0 && (c == 0 && (k.toList == ([] : List UInt8) && (t.toList == ([] : List UInt8)))))))))
  else inb w 0 3 && (inb s 1 100000 && (inb o 1 10 && (inb a 0 100000 && (inb b 0 100000 && (inb c 0 100000 && (words k && words t))))))
theorem specCmd (w s o a b c : Int) (k t : ByteArray) (hk : k.size ≤ maxLen) (ht : t.size ≤ maxLen) : Ev (fun m => spec_CmdOk.f m w s o a b c k t) (cmdOk w s o a b c k t) := by
  unfold maxLen at hk ht
  unfold cmdOk
  refine ev_ite (fun h => ev_now ?_) (fun h => ?_)
  · rw [if_pos h]
  · rw [if_neg h]
    exact ev_some (specIn _ _ _) (ev_and fun _ => ev_some (specIn _ _ _) (ev_and fun _ => ev_some (specIn _ _ _) (ev_and fun _ => ev_some (specIn _ _ _) (ev_and fun _ => ev_some (specIn _ _ _) (ev_and fun _ => ev_some (specIn _ _ _) (ev_and fun _ => ev_bind (specWords k (by omega)) (ev_and fun _ => ev_last (specWords t (by omega)))))))))
theorem implCmd (w s o a b c : Int) (k t : ByteArray) (hk : k.size ≤ maxLen) (ht : t.size ≤ maxLen) : Ev (fun m => impl_CmdOk.f m w s o a b c k t) (cmdOk w s o a b c k t) := by
  unfold maxLen at hk ht
  unfold cmdOk
  refine ev_ite (fun h => ev_now ?_) (fun h => ?_)
  · rw [if_pos h]
  · rw [if_neg h]
    exact ev_some (implIn _ _ _) (ev_and fun _ => ev_some (implIn _ _ _) (ev_and fun _ => ev_some (implIn _ _ _) (ev_and fun _ => ev_some (implIn _ _ _) (ev_and fun _ => ev_some (implIn _ _ _) (ev_and fun _ => ev_some (implIn _ _ _) (ev_and fun _ => ev_bind (implWords k (by omega)) (ev_and fun _ => ev_last (implWords t (by omega)))))))))
end Go.Proofs.Ytiknkolclcdajaa.L

/- The plain side of reading numbers, texts and commands one behind the other: program and reference come to one answer. Condition: bytes of at most 2^20, as they are read. -/
namespace Go.Proofs.Ytiknkolclcdajaa.L
open Go.RowKit Go.Proofs.YtiknkolclcdajaaW.PrintWords Go.Proofs.YtiknkolclcdajaaW.PrintLast Go.Proofs.YtiknkolclcdajaaW.PrintMore Go.Proofs.Ytiknkolclcdajaa.Q

/-- bytes as they are read -/
def okL7 (l : List Int) : Prop := (∀ x ∈ l, 0 ≤ x ∧ x ≤ 255) ∧ l.length ≤ 1048576
/-- a number at a place, while all was there -/
def num (l : List Int) (a : Int) (ok : Bool) : Int × Int × Bool := if (getNum l a).2.2 = true ∧ ok = true then ((getNum l a).1, (getNum l a).2.1, true) else (0, a, false)
/-- a text at a place, while all was there -/
def text (l : List Int) (a : Int) (ok : Bool) : ByteArray × Int × Bool := if (getText l a).2.2 = true ∧ ok = true then ((getText l a).1, (getText l a).2.1, true) else (⟨#[]⟩, a, false)
theorem num_le (l : List Int) (h : okL7 l) (a : Int) (ok : Bool) (ha : a ≤ 9223372036854775807) : (num l a ok).2.1 ≤ 9223372036854775807 := by
  unfold num
  split
  · have := getNum_ok l h.1 a (by rename_i q; exact q.1)
    have := h.2
    show (getNum l a).2.1 ≤ _
    omega
  · exact ha
theorem getText_le (l : List Int) (h : okL7 l) (a : Int) (q : (getText l a).2.2 = true) : 0 ≤ (getText l a).2.1 ∧ (getText l a).2.1 ≤ (l.length : Int) := by
  unfold getText at q ⊢
  by_cases h1 : (getNum l a).2.2 = true
  · have g := getNum_ok l h.1 a h1
    simp only [if_pos h1] at q ⊢
    by_cases h2 : (getNum l a).1 > (l.length : Int) - (getNum l a).2.1
    · simp [if_pos h2] at q
    · simp only [if_neg h2]
      constructor
      · omega
      · omega
  · simp [if_neg h1] at q
theorem text_le (l : List Int) (h : okL7 l) (a : Int) (ok : Bool) (ha : a ≤ 9223372036854775807) : (text l a ok).2.1 ≤ 9223372036854775807 := by
  unfold text
  split
  · have := getText_le l h a (by rename_i q; exact q.1)
    have := h.2
    show (getText l a).2.1 ≤ _
    omega
  · exact ha
theorem strOfNums_size (xs : List Int) : (strOfNums xs).size = xs.length := by simp [strOfNums, ByteArray.size]
theorem text_size (l : List Int) (h : okL7 l) (a : Int) (ok : Bool) : (text l a ok).1.size ≤ 1048576 := by
  have h2 := h.2
  unfold text
  split
  · unfold getText
    split
    · split
      · simp [ByteArray.size]
      · show (strOfNums _).size ≤ _
        rw [strOfNums_size, List.length_drop, List.length_take]
        omega
    · simp [ByteArray.size]
  · simp [ByteArray.size]
theorem specNum (l : List Int) (h : okL7 l) (a : Int) (ok : Bool) (ha : a ≤ 9223372036854775807) : Ev (fun k => spec_l7Num.f k l a ok) (num l a ok) := by
  refine ev_bind (specGet l h.1 h.2 a ha) ?_
  unfold num
  refine ev_ite (fun h1 => ev_ite (fun h2 => ev_now ?_) (fun h2 => ev_now ?_)) (fun h1 => ev_now ?_)
  · rw [if_pos ⟨h1, h2⟩, h2]
  · rw [if_neg (fun q => h2 q.2)]
  · rw [if_neg (fun q => h1 q.1)]
theorem specText7 (l : List Int) (h : okL7 l) (a : Int) (ok : Bool) (ha : a ≤ 9223372036854775807) : Ev (fun k => spec_l7Text.f k l a ok) (text l a ok) := by
  refine ev_bind (specText l h.1 h.2 a ha) ?_
  unfold text
  refine ev_ite (fun h1 => ev_ite (fun h2 => ev_now ?_) (fun h2 => ev_now ?_)) (fun h1 => ev_now ?_)
  · rw [if_pos ⟨h1, h2⟩, h2]
  · rw [if_neg (fun q => h2 q.2)]
  · rw [if_neg (fun q => h1 q.1)]
theorem implNum (l : List Int) (h : okL7 l) (a : Int) (ok : Bool) (ha : a ≤ 9223372036854775807) : Ev (fun k => impl_reader_num.f k l a (!ok)) ((num l a ok).1, (num l a ok).2.1, !(num l a ok).2.2) := by
  refine ev_bind (implGet l h.1 h.2 a ha) ?_
  unfold num
  cases ok with
  | false => exact ev_pos rfl (ev_now (by rw [if_neg (fun q => by simp at q)]; try rfl))
  | true =>
    refine ev_neg (by simp) (ev_ite (fun h1 => ev_now ?_) (fun h1 => ev_now ?_))
    · rw [if_pos ⟨h1, rfl⟩]
      try rfl
    · rw [if_neg (fun q => h1 q.1)]
      try rfl
theorem implText7 (l : List Int) (h : okL7 l) (a : Int) (ok : Bool) (ha : a ≤ 9223372036854775807) : Ev (fun k => impl_reader_text.f k l a (!ok)) ((text l a ok).1, (text l a ok).2.1, !(text l a ok).2.2) := by
  refine ev_bind (implText l h.1 h.2 a ha) ?_
  unfold text
  cases ok with
  | false => exact ev_pos rfl (ev_now (by rw [if_neg (fun q => by simp at q)]; try rfl))
  | true =>
    refine ev_neg (by simp) (ev_ite (fun h1 => ev_now ?_) (fun h1 => ev_now ?_))
    · rw [if_pos ⟨h1, rfl⟩]
      try rfl
    · rw [if_neg (fun q => h1 q.1)]
      try rfl
/-- a command's fields, the place behind it, and whether all was there -/
def cmd7 (l : List Int) (a : Int) (ok : Bool) : Int × Int × Int × Int × Int × Int × ByteArray × ByteArray × Int × Bool :=
  let n1 := num l a ok; let n2 := num l n1.2.1 n1.2.2; let n3 := num l n2.2.1 n2.2.2; let n4 := num l n3.2.1 n3.2.2; let n5 := num l n4.2.1 n4.2.2; let n6 := num l n5.2.1 n5.2.2
  let t1 := text l n6.2.1 n6.2.2; let t2 := text l t1.2.1 t1.2.2
  (wrap64 (n1.1 - 1), n2.1, n3.1, n4.1, n5.1, n6.1, t1.1, t2.1, t2.2.1, t2.2.2)
theorem cmd7_size (l : List Int) (h : okL7 l) (a : Int) (ok : Bool) : (cmd7 l a ok).2.2.2.2.2.2.1.size ≤ 1048576 ∧ (cmd7 l a ok).2.2.2.2.2.2.2.1.size ≤ 1048576 := ⟨text_size l h _ _, text_size l h _ _⟩
theorem specCmd7 (l : List Int) (h : okL7 l) (a : Int) (ok : Bool) (ha : a ≤ 9223372036854775807) : Ev (fun k => spec_l7Cmd.f k l a ok) (cmd7 l a ok) := by
  have b1 := num_le l h a ok ha
  have b2 := num_le l h _ (num l a ok).2.2 b1
  have b3 := num_le l h _ (num l (num l a ok).2.1 (num l a ok).2.2).2.2 b2
  refine ev_bind (specNum l h a ok ha) (ev_bind (specNum l h _ _ b1) (ev_bind (specNum l h _ _ b2) (ev_bind (specNum l h _ _ b3) ?_)))
  have b4 := num_le l h _ (num l (num l (num l a ok).2.1 (num l a ok).2.2).2.1 (num l (num l a ok).2.1 (num l a ok).2.2).2.2).2.2 b3
  refine ev_bind (specNum l h _ _ b4) (ev_bind (specNum l h _ _ (num_le l h _ _ b4)) (ev_bind (specText7 l h _ _ (num_le l h _ _ (num_le l h _ _ b4))) (ev_bind (specText7 l h _ _ (text_le l h _ _ (num_le l h _ _ (num_le l h _ _ b4)))) (ev_now rfl))))
/-- what CmdOf comes to -/
def cmdOf (l : List Int) (a : Int) : Int × Int × Int × Int × Int × Int × ByteArray × ByteArray × Int × Bool :=
  let c := cmd7 l a true
  if c.2.2.2.2.2.2.2.2.2 = true ∧ cmdOk c.1 c.2.1 c.2.2.1 c.2.2.2.1 c.2.2.2.2.1 c.2.2.2.2.2.1 c.2.2.2.2.2.2.1 c.2.2.2.2.2.2.2.1 = true then (c.1, c.2.1, c.2.2.1, c.2.2.2.1, c.2.2.2.2.1, c.2.2.2.2.2.1, c.2.2.2.2.2.2.1, c.2.2.2.2.2.2.2.1, c.2.2.2.2.2.2.2.2.1, true)
  else (0, 0, 0, 0, 0, 0, ⟨#[]⟩, ⟨#[]⟩, 0, false)
theorem specCmdOf (l : List Int) (h : okL7 l) (a : Int) (ha : a ≤ 9223372036854775807) : Ev (fun k => spec_CmdOf.f k l a) (cmdOf l a) := by
  refine ev_bind (specCmd7 l h a true ha) ?_
  have hs := cmd7_size l h a true
  unfold cmdOf
  generalize cmd7 l a true = c at hs ⊢
  obtain ⟨c1, c2, c3, c4, c5, c6, c7, c8, at_, ok⟩ := c
  simp only at hs ⊢
  refine ev_ite (fun h1 => ?_) (fun h1 => ?_)
  · refine ev_bind (specCmd c1 c2 c3 c4 c5 c6 c7 c8 (by unfold maxLen; omega) (by unfold maxLen; omega)) ?_
    refine ev_step (fun _ => by rw [spec_CmdOf.j0]) ?_
    cases hc : cmdOk c1 c2 c3 c4 c5 c6 c7 c8 with
    | true => exact ev_neg (by simp) (ev_now (by rw [if_pos ⟨h1, rfl⟩]))
    | false => exact ev_pos rfl (ev_now (by rw [if_neg (fun q => by simp at q)]))
  · refine ev_step (fun _ => by rw [spec_CmdOf.j0]) ?_
    exact ev_pos rfl (ev_now (by rw [if_neg (fun q => h1 q.1)]))
theorem implCmdOf (l : List Int) (h : okL7 l) (a : Int) (ha : a ≤ 9223372036854775807) : Ev (fun k => impl_CmdOf.f k l a) (cmdOf l a) := by
  have b1 := num_le l h a true ha
  have b2 := num_le l h _ (num l a true).2.2 b1
  have b3 := num_le l h _ (num l (num l a true).2.1 (num l a true).2.2).2.2 b2
  have b4 := num_le l h _ (num l (num l (num l a true).2.1 (num l a true).2.2).2.1 (num l (num l a true).2.1 (num l a true).2.2).2.2).2.2 b3
  have hs := cmd7_size l h a true
  have e : Ev (fun k => impl_reader_cmd.f k l a false) ((cmd7 l a true).1, (cmd7 l a true).2.1, (cmd7 l a true).2.2.1, (cmd7 l a true).2.2.2.1, (cmd7 l a true).2.2.2.2.1, (cmd7 l a true).2.2.2.2.2.1, (cmd7 l a true).2.2.2.2.2.2.1, (cmd7 l a true).2.2.2.2.2.2.2.1, (cmd7 l a true).2.2.2.2.2.2.2.2.1,
      !((cmd7 l a true).2.2.2.2.2.2.2.2.2 && cmdOk (cmd7 l a true).1 (cmd7 l a true).2.1 (cmd7 l a true).2.2.1 (cmd7 l a true).2.2.2.1 (cmd7 l a true).2.2.2.2.1 (cmd7 l a true).2.2.2.2.2.1 (cmd7 l a true).2.2.2.2.2.2.1 (cmd7 l a true).2.2.2.2.2.2.2.1)) := by
    refine ev_bind (implNum l h a true ha) (ev_bind (implNum l h _ _ b1) (ev_bind (implNum l h _ _ b2) (ev_bind (implNum l h _ _ b3) ?_)))
    refine ev_bind (implNum l h _ _ b4) (ev_bind (implNum l h _ _ (num_le l h _ _ b4)) (ev_bind (implText7 l h _ _ (num_le l h _ _ (num_le l h _ _ b4))) (ev_bind (implText7 l h _ _ (text_le l h _ _ (num_le l h _ _ (num_le l h _ _ b4)))) ?_)))
    show Ev (fun k => if (!(cmd7 l a true).2.2.2.2.2.2.2.2.2) = true then some ((cmd7 l a true).1, (cmd7 l a true).2.1, (cmd7 l a true).2.2.1, (cmd7 l a true).2.2.2.1, (cmd7 l a true).2.2.2.2.1, (cmd7 l a true).2.2.2.2.2.1, (cmd7 l a true).2.2.2.2.2.2.1, (cmd7 l a true).2.2.2.2.2.2.2.1, (cmd7 l a true).2.2.2.2.2.2.2.2.1, true)
      else (impl_CmdOk.f k (cmd7 l a true).1 (cmd7 l a true).2.1 (cmd7 l a true).2.2.1 (cmd7 l a true).2.2.2.1 (cmd7 l a true).2.2.2.2.1 (cmd7 l a true).2.2.2.2.2.1 (cmd7 l a true).2.2.2.2.2.2.1 (cmd7 l a true).2.2.2.2.2.2.2.1).bind fun t => some ((cmd7 l a true).1, (cmd7 l a true).2.1, (cmd7 l a true).2.2.1, (cmd7 l a true).2.2.2.1, (cmd7 l a true).2.2.2.2.1, (cmd7 l a true).2.2.2.2.2.1, (cmd7 l a true).2.2.2.2.2.2.1, (cmd7 l a true).2.2.2.2.2.2.2.1, (cmd7 l a true).2.2.2.2.2.2.2.2.1, !t)) _
    generalize cmd7 l a true = c at hs ⊢
    obtain ⟨c1, c2, c3, c4, c5, c6, c7, c8, at_, ok⟩ := c
    simp only at hs ⊢
    cases ok with
    | false => exact ev_pos rfl (ev_now (by simp))
    | true => exact ev_neg (by simp) (ev_bind (implCmd c1 c2 c3 c4 c5 c6 c7 c8 (by unfold maxLen; omega) (by unfold maxLen; omega)) (ev_now (by simp)))
  refine ev_bind e ?_
  unfold cmdOf
  generalize cmd7 l a true = c at hs ⊢
  obtain ⟨c1, c2, c3, c4, c5, c6, c7, c8, at_, ok⟩ := c
  simp only
  cases ok with
  | false => exact ev_pos (by simp) (ev_now (by rw [if_neg (fun q => by simp at q)]))
  | true =>
    cases hc : cmdOk c1 c2 c3 c4 c5 c6 c7 c8 with
    | true => exact ev_neg (by simp) (ev_now (by rw [if_pos ⟨rfl, rfl⟩]))
    | false => exact ev_pos rfl (ev_now (by rw [if_neg (fun q => by simp at q)]))
end Go.Proofs.Ytiknkolclcdajaa.L

/- The plain side of a command's bytes: program and reference come to one list. Condition: lists of at most 2^16 numbers, texts of at most 2^20 bytes. -/
namespace Go.Proofs.Ytiknkolclcdajaa.L
open Go.RowKit Go.Proofs.YtiknkolclcdajaaW.PrintWords Go.Proofs.YtiknkolclcdajaaW.PrintLast Go.Proofs.YtiknkolclcdajaaW.PrintMore Go.Proofs.Ytiknkolclcdajaa.Q

/-- the numbers from i on, one behind the other -/
def putAll (l : List Int) : Nat → Nat → List Int
  | 0, _ => []
  | d + 1, i => put (rd l (i : Int)) ++ putAll l d (i + 1)
theorem putAll_len (l : List Int) : ∀ (d i : Nat), (putAll l d i).length ≤ 5 * d := by
  intro d
  induction d with
  | zero => intro i; simp [putAll]
  | succ d ih =>
    intro i
    have h1 := ih (i + 1)
    have h2 := put_len (rd l (i : Int))
    unfold putAll
    rw [List.length_append]
    omega
theorem implNums_l0 (l : List Int) (hn : l.length ≤ 65536) : ∀ (d i : Nat) (acc : List Int), i + d = l.length → acc.length + 5 * d ≤ 1048576 → Ev (fun k => impl_nums.l0 k acc l (l.length : Int) (i : Int)) (acc ++ putAll l d i) := by
  intro d
  induction d with
  | zero =>
    intro i acc h q
    refine ev_step (fun _ => by rw [impl_nums.l0]) ?_
    exact ev_neg (by omega) (ev_now (by simp [putAll]))
  | succ d ih =>
    intro i acc h q
    have e : wrap64 ((i : Int) + 1) = ((i + 1 : Nat) : Int) := by rw [w64 (by omega) (by omega)]; omega
    have hp := put_len (rd l (i : Int))
    refine ev_step (fun _ => by rw [impl_nums.l0]) ?_
    rw [e]
    refine ev_pos (by omega) (ev_pos (by omega) (ev_pos (by omega) (ev_bind (implPut _) (ev_pos (by omega) ?_))))
    exact ev_eq (by simp [putAll]) (ih (i + 1) (acc ++ put (rd l (i : Int))) (by omega) (by rw [List.length_append]; omega))
theorem specNums_l0 (l : List Int) (hn : l.length ≤ 65536) : ∀ (d i : Nat) (acc : List Int), i + d = l.length → acc.length + 5 * d ≤ 1048576 → Ev (fun k => spec_l7Nums.l0 k l acc (i : Int)) (acc ++ putAll l d i) := by
  intro d
  induction d with
  | zero =>
    intro i acc h q
    refine ev_step (fun _ => by rw [spec_l7Nums.l0]) ?_
    exact ev_neg (by omega) (ev_now (by simp [putAll]))
  | succ d ih =>
    intro i acc h q
    have e : wrap64 ((i : Int) + 1) = ((i + 1 : Nat) : Int) := by rw [w64 (by omega) (by omega)]; omega
    have hp := put_len (rd l (i : Int))
    refine ev_step (fun _ => by rw [spec_l7Nums.l0]) ?_
    rw [e]
    refine ev_pos (by omega) (ev_pos (by omega) (ev_bind (specPut _) (ev_pos (by omega) ?_)))
    exact ev_eq (by simp [putAll]) (ih (i + 1) (acc ++ put (rd l (i : Int))) (by omega) (by rw [List.length_append]; omega))
theorem implNums (l : List Int) (hn : l.length ≤ 65536) : Ev (fun k => impl_nums.f k l) (putAll l l.length 0) := implNums_l0 l hn l.length 0 [] (by omega) (by simp; omega)
theorem specNums (l : List Int) (hn : l.length ≤ 65536) : Ev (fun k => spec_l7Nums.f k l) (putAll l l.length 0) := specNums_l0 l hn l.length 0 [] (by omega) (by simp; omega)
/-- a text's bytes, behind their count -/
def putText (s : ByteArray) : List Int := put (s.size : Int) ++ bytesOf s
theorem putText_len (s : ByteArray) : (putText s).length ≤ s.size + 5 := by
  have := put_len (s.size : Int)
  unfold putText
  rw [List.length_append, bytesOf_length]
  omega
theorem specPutText (s : ByteArray) (hs : s.size ≤ 1048576) : Ev (fun k => spec_PutText.f k s) (putText s) := by
  have := put_len (s.size : Int)
  exact ev_bind (specPut _) (ev_pos (by omega) (ev_now rfl))
theorem implPutText (s : ByteArray) (hs : s.size ≤ 1048576) : Ev (fun k => impl_PutText.f k s) (putText s) := by
  have := put_len (s.size : Int)
  exact ev_bind (implPut _) (ev_pos (by omega) (ev_now rfl))
/-- a command's six numbers -/
def cmdNums (w s o a b c : Int) : List Int := putAll [wrap64 (w + 1), s, o, a, b, c] 6 0
theorem cmdNums_len (w s o a b c : Int) : (cmdNums w s o a b c).length ≤ 30 := putAll_len _ 6 0
/-- what CmdBytes comes to -/
def cmdBytes (w s o a b c : Int) (k t : ByteArray) : List Int := if cmdOk w s o a b c k t = true then cmdNums w s o a b c ++ putText k ++ putText t else []
theorem cmdBytes_len (w s o a b c : Int) (k t : ByteArray) : (cmdBytes w s o a b c k t).length ≤ k.size + t.size + 40 := by
  have h1 := cmdNums_len w s o a b c
  have h2 := putText_len k
  have h3 := putText_len t
  unfold cmdBytes
  split
  · simp only [List.length_append]; omega
  · simp
theorem specCmdBytes (w s o a b c : Int) (k t : ByteArray) (hk : k.size ≤ 1048576) (ht : t.size ≤ 1048576) : Ev (fun m => spec_CmdBytes.f m w s o a b c k t) (cmdBytes w s o a b c k t) := by
  have h1 := cmdNums_len w s o a b c
  have h2 := putText_len k
  have h3 := putText_len t
  have h4 : (cmdNums w s o a b c ++ putText k).length = (cmdNums w s o a b c).length + (putText k).length := List.length_append
  refine ev_bind (specCmd w s o a b c k t (by unfold maxLen; omega) (by unfold maxLen; omega)) ?_
  unfold cmdBytes
  by_cases h : cmdOk w s o a b c k t = true
  · rw [if_pos h]
    have n : Ev (fun m => spec_l7Nums.f m [wrap64 (w + 1), s, o, a, b, c]) (cmdNums w s o a b c) := specNums _ (by simp)
    exact ev_pos h (ev_bind n (ev_bind (specPutText k hk) (ev_pos (by omega) (ev_some rfl (ev_bind (specPutText t ht) (ev_pos (by omega) (ev_now rfl)))))))
  · rw [if_neg h]
    exact ev_neg h (ev_now rfl)
theorem implCmdBytes (w s o a b c : Int) (k t : ByteArray) (hk : k.size ≤ 1048576) (ht : t.size ≤ 1048576) : Ev (fun m => impl_CmdBytes.f m w s o a b c k t) (cmdBytes w s o a b c k t) := by
  have h1 := cmdNums_len w s o a b c
  have h2 := putText_len k
  have h3 := putText_len t
  refine ev_bind (implCmd w s o a b c k t (by unfold maxLen; omega) (by unfold maxLen; omega)) ?_
  unfold cmdBytes
  by_cases h : cmdOk w s o a b c k t = true
  · rw [if_pos h]
    have n : Ev (fun m => impl_nums.f m [wrap64 (w + 1), s, o, a, b, c]) (cmdNums w s o a b c) := implNums _ (by simp)
    have e : slices_Concat_byte_byte.f [cmdNums w s o a b c, putText k, putText t] = some (cmdNums w s o a b c ++ putText k ++ putText t) := by
      have f : ([cmdNums w s o a b c, putText k, putText t] : List (List Int)).flatten = cmdNums w s o a b c ++ putText k ++ putText t := by simp
      unfold slices_Concat_byte_byte.f
      rw [f, if_pos (by simp only [List.length_append]; omega)]
    exact ev_pos h (ev_bind n (ev_bind (implPutText k hk) (ev_bind (implPutText t ht) (ev_some e (ev_now rfl)))))
  · rw [if_neg h]
    exact ev_neg h (ev_now rfl)
end Go.Proofs.Ytiknkolclcdajaa.L

/- Numbers and texts, written and read again: what is written is read as it was, what is read was written so. No program in sight but the plain words for it. -/
namespace Go.Proofs.Ytiknkolclcdajaa.L
open Go.RowKit Go.Proofs.YtiknkolclcdajaaW.PrintWords Go.Proofs.YtiknkolclcdajaaW.PrintLast Go.Proofs.YtiknkolclcdajaaW.PrintMore Go.Proofs.Ytiknkolclcdajaa.Q

theorem at_drop {l : List Int} {p : Nat} {y : Int} {t : List Int} (h : l.drop p = y :: t) : p < l.length ∧ rd l (p : Int) = y ∧ l.drop (p + 1) = t := by
  have hp : p < l.length := by
    rcases Nat.lt_or_ge p l.length with q | q
    · exact q
    · rw [List.drop_eq_nil_of_le q] at h
      cases h
  rw [List.drop_eq_getElem_cons hp] at h
  injection h with h1 h2
  exact ⟨hp, by rw [rd_eq l p hp]; exact h1, h2⟩
theorem split128 (x P : Int) : (x % 128) * P + (x / 128) * (P * 128) = x * P := by
  have h : x = x % 128 + 128 * (x / 128) := by omega
  calc (x % 128) * P + (x / 128) * (P * 128) = (x % 128 + 128 * (x / 128)) * P := by
        rw [Int.add_mul, Int.mul_comm P 128, ← Int.mul_assoc, Int.mul_comm (x / 128) 128]
    _ = x * P := by rw [← h]
/-- what is written is read -/
theorem get_enc (l : List Int) : ∀ (d c : Nat) (x acc : Int) (j p : Nat) (t : List Int), d < c → 0 ≤ x → x < 128 ^ (d + 1) → (0 < j → 0 < x) → acc + x * 128 ^ j ≤ 2147483647 → l.drop p = enc d x ++ t →
    get c l acc j (p : Int) = (acc + x * 128 ^ j, ((p + (enc d x).length : Nat) : Int), true) := by
  have last : ∀ (c : Nat) (x acc : Int) (j p : Nat) (t : List Int), 0 ≤ x → x < 128 → (0 < j → 0 < x) → acc + x * 128 ^ j ≤ 2147483647 → l.drop p = x % 256 :: t → get (c + 1) l acc j (p : Int) = (acc + x * 128 ^ j, ((p + 1 : Nat) : Int), true) := by
    intro c x acc j p t h0 h1 hj hs hd
    obtain ⟨hp, hr, _⟩ := at_drop hd
    have e : x % 256 = x := by omega
    rw [e] at hr
    unfold get
    rw [hr, if_pos (by omega), if_pos h1, if_neg (by omega)]
    rfl
  intro d
  induction d with
  | zero =>
    intro c x acc j p t hc h0 h1 hj hs hd
    obtain ⟨c, rfl⟩ : ∃ e, c = e + 1 := ⟨c - 1, by omega⟩
    exact last c x acc j p t h0 (by simpa using h1) hj hs hd
  | succ d ih =>
    intro c x acc j p t hc h0 h1 hj hs hd
    obtain ⟨c, rfl⟩ : ∃ e, c = e + 1 := ⟨c - 1, by omega⟩
    by_cases q : x > 127
    · have e : enc (d + 1) x = (x % 128 + 128) :: enc d (x / 128) := by rw [enc, if_pos q]
      rw [e] at hd ⊢
      obtain ⟨hp, hr, ht⟩ := at_drop hd
      have hx : x / 128 < 128 ^ (d + 1) := by
        rw [Int.pow_succ] at h1
        omega
      have hsum : acc + x % 128 * 128 ^ j + x / 128 * 128 ^ (j + 1) = acc + x * 128 ^ j := by
        rw [Int.pow_succ, Int.add_assoc, split128]
      have := ih c (x / 128) (acc + x % 128 * 128 ^ j) (j + 1) (p + 1) t (by omega) (by omega) hx (fun _ => by omega) (by omega) ht
      unfold get
      rw [hr, if_pos (by omega), if_neg (by omega)]
      have e2 : x % 128 + 128 - 128 = x % 128 := by omega
      have e3 : (p : Int) + 1 = ((p + 1 : Nat) : Int) := by omega
      rw [e2, e3, this, hsum]
      simp only [List.length_cons]
      have e4 : p + 1 + (enc d (x / 128)).length = p + ((enc d (x / 128)).length + 1) := by omega
      rw [e4]
    · have e : enc (d + 1) x = [x % 256] := by rw [enc, if_neg q]
      rw [e] at hd ⊢
      exact last c x acc j p t h0 (by omega) hj hs hd
theorem getNum_put (l : List Int) (x : Int) (p : Nat) (t : List Int) (h0 : 0 ≤ x) (h1 : x ≤ 2147483647) (hd : l.drop p = put x ++ t) : getNum l (p : Int) = (x, ((p + (put x).length : Nat) : Int), true) := by
  unfold put at hd ⊢
  rw [if_pos ⟨h0, h1⟩] at hd ⊢
  unfold getNum
  rw [if_neg (by omega), get_enc l 4 5 x 0 0 p t (by omega) h0 (by omega) (fun q => absurd q (by omega)) (by omega) hd]
  simp
/-- what is read was written -/
theorem enc_get (l : List Int) (hl : ∀ x ∈ l, 0 ≤ x ∧ x ≤ 255) : ∀ (d : Nat) (acc : Int) (j p : Nat), (get (d + 1) l acc j (p : Int)).2.2 = true →
    ∃ x, 0 ≤ x ∧ (0 < j → 0 < x) ∧ (get (d + 1) l acc j (p : Int)).1 = acc + x * 128 ^ j ∧ (get (d + 1) l acc j (p : Int)).2.1 = ((p + (enc d x).length : Nat) : Int) ∧ ∃ t, l.drop p = enc d x ++ t := by
  have here : ∀ (d : Nat) (acc : Int) (j p : Nat), p < l.length → rd l (p : Int) < 128 → (get (d + 1) l acc j (p : Int)).2.2 = true → (0 < j → 0 < rd l (p : Int)) ∧ get (d + 1) l acc j (p : Int) = (acc + rd l (p : Int) * 128 ^ j, (p : Int) + 1, true) ∧ l.drop p = [rd l (p : Int) % 256] ++ l.drop (p + 1) := by
    intro d acc j p hp hb h
    have hr := rd_range hl (p : Int)
    unfold get at h ⊢
    rw [if_pos (by omega), if_pos hb] at h ⊢
    by_cases c : j > 0 ∧ rd l (p : Int) = 0 ∨ acc + rd l (p : Int) * 128 ^ j > 2147483647
    · rw [if_pos c] at h
      cases h
    · rw [if_neg c]
      refine ⟨fun q => by omega, rfl, ?_⟩
      have e : rd l (p : Int) % 256 = l[p] := by rw [rd_eq l p hp] at hr ⊢; omega
      rw [e, List.drop_eq_getElem_cons hp]
      rfl
  intro d
  induction d with
  | zero =>
    intro acc j p h
    have hp : p < l.length := by
      rcases Nat.lt_or_ge p l.length with q | q
      · exact q
      · unfold get at h; rw [if_neg (by omega)] at h; cases h
    have hr := rd_range hl (p : Int)
    by_cases hb : rd l (p : Int) < 128
    · obtain ⟨h1, h2, h3⟩ := here 0 acc j p hp hb h
      rw [h2]
      exact ⟨rd l (p : Int), hr.1, h1, rfl, by simp [enc], _, h3⟩
    · unfold get at h
      rw [if_pos (by omega), if_neg hb] at h
      cases h
  | succ d ih =>
    intro acc j p h
    have hp : p < l.length := by
      rcases Nat.lt_or_ge p l.length with q | q
      · exact q
      · unfold get at h; rw [if_neg (by omega)] at h; cases h
    have hr := rd_range hl (p : Int)
    by_cases hb : rd l (p : Int) < 128
    · obtain ⟨h1, h2, h3⟩ := here (d + 1) acc j p hp hb h
      have e : enc (d + 1) (rd l (p : Int)) = [rd l (p : Int) % 256] := by rw [enc, if_neg (by omega)]
      rw [h2]
      exact ⟨rd l (p : Int), hr.1, h1, rfl, by rw [e]; simp, _, by rw [e]; exact h3⟩
    · have e3 : (p : Int) + 1 = ((p + 1 : Nat) : Int) := by omega
      have eg : get (d + 1 + 1) l acc j (p : Int) = get (d + 1) l (acc + (rd l (p : Int) - 128) * 128 ^ j) (j + 1) ((p + 1 : Nat) : Int) := by
        rw [get, if_pos (by omega), if_neg hb, e3]
      rw [eg] at h ⊢
      obtain ⟨x, h0, hj, h1, h2, t, h3⟩ := ih _ _ _ h
      have hx := hj (by omega)
      have q1 : (rd l (p : Int) - 128 + 128 * x) % 128 = rd l (p : Int) - 128 := by omega
      have q2 : (rd l (p : Int) - 128 + 128 * x) / 128 = x := by omega
      have e : enc (d + 1) (rd l (p : Int) - 128 + 128 * x) = rd l (p : Int) :: enc d x := by
        rw [enc, if_pos (by omega), q1, q2]
        congr 1
        omega
      refine ⟨rd l (p : Int) - 128 + 128 * x, by omega, fun _ => by omega, ?_, ?_, t, ?_⟩
      · rw [h1, Int.pow_succ, Int.add_assoc]
        have := split128 (rd l (p : Int) - 128 + 128 * x) (128 ^ j)
        rw [q1, q2] at this
        rw [this]
      · rw [h2, e]
        simp only [List.length_cons]
        omega
      · rw [e, List.drop_eq_getElem_cons hp, h3, rd_eq l p hp]
        rfl
theorem take_back {l a t : List Int} {p : Nat} (h : l.drop p = a ++ t) : (l.take (p + a.length)).drop p = a := by
  rw [List.drop_take, h, Nat.add_sub_cancel_left, List.take_left']
  rfl
theorem put_getNum (l : List Int) (hl : ∀ x ∈ l, 0 ≤ x ∧ x ≤ 255) (p : Nat) (h : (getNum l (p : Int)).2.2 = true) : (getNum l (p : Int)).2.1 = ((p + (put (getNum l (p : Int)).1).length : Nat) : Int) ∧ ∃ t, l.drop p = put (getNum l (p : Int)).1 ++ t := by
  have g := getNum_ok l hl (p : Int) h
  have e : getNum l (p : Int) = get 5 l 0 0 (p : Int) := by unfold getNum; rw [if_neg (by omega)]
  have ep : put (getNum l (p : Int)).1 = enc 4 (getNum l (p : Int)).1 := by unfold put; rw [if_pos ⟨g.1, g.2.1⟩]
  rw [ep]
  rw [e] at h ⊢
  obtain ⟨x, h0, _, h1, h2, t, h3⟩ := enc_get l hl 4 0 0 p h
  have ex : (get 5 l 0 0 (p : Int)).1 = x := by rw [h1]; simp
  rw [ex]
  exact ⟨h2, t, h3⟩
end Go.Proofs.Ytiknkolclcdajaa.L

/- Texts and commands, written and read again: what is written is read as it was, what is read was written so. No program in sight but the plain words for it. -/
namespace Go.Proofs.Ytiknkolclcdajaa.L
open Go.RowKit Go.Proofs.YtiknkolclcdajaaW.PrintWords Go.Proofs.YtiknkolclcdajaaW.PrintLast Go.Proofs.YtiknkolclcdajaaW.PrintMore Go.Proofs.Ytiknkolclcdajaa.Q

theorem str_bytes (s : ByteArray) : strOfNums (bytesOf s) = s := by
  unfold strOfNums bytesOf
  rw [List.map_map]
  have e : ((fun n : Int => UInt8.ofNat n.toNat) ∘ fun b : UInt8 => (b.toNat : Int)) = id := by
    funext b
    simp
  rw [e, List.map_id]
theorem bytes_str (xs : List Int) (h : ∀ x ∈ xs, 0 ≤ x ∧ x ≤ 255) : bytesOf (strOfNums xs) = xs := by
  unfold strOfNums bytesOf
  rw [List.map_map]
  have : ∀ x ∈ xs, ((fun b : UInt8 => (b.toNat : Int)) ∘ fun n : Int => UInt8.ofNat n.toNat) x = id x := by
    intro x hx
    have := h x hx
    show ((UInt8.ofNat x.toNat).toNat : Int) = x
    rw [UInt8.toNat_ofNat']
    omega
  rw [List.map_congr_left this, List.map_id]
/-- a text that is written is read -/
theorem getText_put (l : List Int) (s : ByteArray) (p : Nat) (t : List Int) (hs : s.size ≤ 1048576) (hd : l.drop p = putText s ++ t) : getText l (p : Int) = (s, ((p + (putText s).length : Nat) : Int), true) := by
  unfold putText at hd
  rw [List.append_assoc] at hd
  have g := getNum_put l (s.size : Int) p (bytesOf s ++ t) (by omega) (by omega) hd
  have hd2 : l.drop (p + (put (s.size : Int)).length) = bytesOf s ++ t := by
    rw [← List.drop_drop, hd, List.drop_left' rfl]
  have hlen : (l.drop (p + (put (s.size : Int)).length)).length = s.size + t.length := by rw [hd2, List.length_append, bytesOf_length]
  rw [List.length_drop] at hlen
  have tb := take_back hd2
  rw [bytesOf_length] at tb
  unfold getText
  rw [g]
  simp only [if_true]
  by_cases z : s.size = 0
  · have hb : bytesOf s = [] := List.eq_nil_of_length_eq_zero (by rw [bytesOf_length]; exact z)
    have hpl : p + (put (s.size : Int)).length ≤ l.length := by
      have h1 : (l.drop p).length = (put (s.size : Int)).length + (bytesOf s ++ t).length := by rw [hd, List.length_append]
      rw [List.length_drop] at h1
      have h2 : 0 < (put (s.size : Int)).length := by
        unfold put
        rw [if_pos ⟨by omega, by omega⟩]
        unfold enc
        split <;> simp
      omega
    rw [if_neg (by omega)]
    have e1 : (((p + (put (s.size : Int)).length : Nat) : Int) + (s.size : Int)).toNat = p + (put (s.size : Int)).length + s.size := by omega
    have e2 : (((p + (put (s.size : Int)).length : Nat) : Int)).toNat = p + (put (s.size : Int)).length := by omega
    rw [e1, e2, tb, str_bytes]
    unfold putText
    rw [List.length_append, bytesOf_length]
    congr 2
    omega
  · rw [if_neg (by omega)]
    have e1 : (((p + (put (s.size : Int)).length : Nat) : Int) + (s.size : Int)).toNat = p + (put (s.size : Int)).length + s.size := by omega
    have e2 : (((p + (put (s.size : Int)).length : Nat) : Int)).toNat = p + (put (s.size : Int)).length := by omega
    rw [e1, e2, tb, str_bytes]
    unfold putText
    rw [List.length_append, bytesOf_length]
    congr 2
    omega
/-- a text that is read was written -/
theorem put_getText (l : List Int) (hl : ∀ x ∈ l, 0 ≤ x ∧ x ≤ 255) (p : Nat) (h : (getText l (p : Int)).2.2 = true) : (getText l (p : Int)).2.1 = ((p + (putText (getText l (p : Int)).1).length : Nat) : Int) ∧ ∃ t, l.drop p = putText (getText l (p : Int)).1 ++ t := by
  unfold getText at h ⊢
  by_cases h1 : (getNum l (p : Int)).2.2 = true
  · have g := getNum_ok l hl (p : Int) h1
    obtain ⟨b1, t, b2⟩ := put_getNum l hl p h1
    simp only [if_pos h1] at h ⊢
    generalize getNum l (p : Int) = v at *
    obtain ⟨n, m, ok⟩ := v
    simp only at *
    by_cases h2 : n > (l.length : Int) - m
    · rw [if_pos h2] at h
      cases h
    · rw [if_neg h2]
      simp only
      have hm : m.toNat = p + (put n).length := by omega
      have e1 : (m + n).toNat = m.toNat + n.toNat := by omega
      have hx : ((l.take (m + n).toNat).drop m.toNat).length = n.toNat := by
        rw [List.length_drop, List.length_take]
        omega
      have hs : (strOfNums ((l.take (m + n).toNat).drop m.toNat)).size = n.toNat := by rw [strOfNums_size, hx]
      have hn : ((strOfNums ((l.take (m + n).toNat).drop m.toNat)).size : Int) = n := by rw [hs]; omega
      have hbytes : bytesOf (strOfNums ((l.take (m + n).toNat).drop m.toNat)) = (l.take (m + n).toNat).drop m.toNat := bytes_str _ (fun x hx => hl x (List.mem_of_mem_take (List.mem_of_mem_drop hx)))
      have ep : putText (strOfNums ((l.take (m + n).toNat).drop m.toNat)) = put n ++ (l.take (m + n).toNat).drop m.toNat := by
        unfold putText
        rw [hn, hbytes]
      rw [ep]
      refine ⟨?_, l.drop (m + n).toNat, ?_⟩
      · rw [List.length_append, hx]
        omega
      · have q : t = l.drop m.toNat := by
          rw [hm, ← List.drop_drop, b2, List.drop_left' rfl]
        have r : l.drop m.toNat = (l.take (m + n).toNat).drop m.toNat ++ l.drop (m + n).toNat := by
          have e3 : (l.take (m + n).toNat).drop m.toNat = (l.drop m.toNat).take n.toNat := by
            rw [List.drop_take, e1, Nat.add_sub_cancel_left]
          rw [e3, e1, ← List.drop_drop, List.take_append_drop]
        rw [b2, q, r, List.append_assoc]
  · rw [if_neg h1] at h
    cases h
end Go.Proofs.Ytiknkolclcdajaa.L

/- Commands, written and read again: what is written is read as it was, what is read was written so. No program in sight but the plain words for it. -/
namespace Go.Proofs.Ytiknkolclcdajaa.L
open Go.RowKit Go.Proofs.YtiknkolclcdajaaW.PrintWords Go.Proofs.YtiknkolclcdajaaW.PrintLast Go.Proofs.YtiknkolclcdajaaW.PrintMore Go.Proofs.Ytiknkolclcdajaa.Q

theorem num_put (l : List Int) (x : Int) (p : Nat) (t : List Int) (h0 : 0 ≤ x) (h1 : x ≤ 2147483647) (hd : l.drop p = put x ++ t) : num l (p : Int) true = (x, ((p + (put x).length : Nat) : Int), true) := by
  unfold num
  rw [getNum_put l x p t h0 h1 hd, if_pos ⟨rfl, rfl⟩]
theorem text_put (l : List Int) (s : ByteArray) (p : Nat) (t : List Int) (hs : s.size ≤ 1048576) (hd : l.drop p = putText s ++ t) : text l (p : Int) true = (s, ((p + (putText s).length : Nat) : Int), true) := by
  unfold text
  rw [getText_put l s p t hs hd, if_pos ⟨rfl, rfl⟩]
theorem drop_on {l a t : List Int} {p : Nat} (h : l.drop p = a ++ t) : l.drop (p + a.length) = t := by
  rw [← List.drop_drop, h, List.drop_left' rfl]
theorem cmdNums_eq (w s o a b c : Int) : cmdNums w s o a b c = put (wrap64 (w + 1)) ++ (put s ++ (put o ++ (put a ++ (put b ++ put c)))) := by
  simp [cmdNums, putAll, rd]
/-- a command's fields, one behind the other -/
theorem cmd7_put (l : List Int) (n s o a b c : Int) (k t : ByteArray) (p : Nat) (rest : List Int) (hn : 0 ≤ n ∧ n ≤ 2147483647) (hs : 0 ≤ s ∧ s ≤ 2147483647) (ho : 0 ≤ o ∧ o ≤ 2147483647) (ha : 0 ≤ a ∧ a ≤ 2147483647) (hb : 0 ≤ b ∧ b ≤ 2147483647) (hc : 0 ≤ c ∧ c ≤ 2147483647) (hk : k.size ≤ 1048576) (ht : t.size ≤ 1048576)
    (hd : l.drop p = put n ++ (put s ++ (put o ++ (put a ++ (put b ++ (put c ++ (putText k ++ (putText t ++ rest)))))))) :
    cmd7 l (p : Int) true = (wrap64 (n - 1), s, o, a, b, c, k, t, ((p + (put n).length + (put s).length + (put o).length + (put a).length + (put b).length + (put c).length + (putText k).length + (putText t).length : Nat) : Int), true) := by
  have d1 := drop_on hd
  have d2 := drop_on d1
  have d3 := drop_on d2
  have d4 := drop_on d3
  have d5 := drop_on d4
  have d6 := drop_on d5
  have d7 := drop_on d6
  unfold cmd7
  simp only [num_put l n p _ hn.1 hn.2 hd, num_put l s _ _ hs.1 hs.2 d1, num_put l o _ _ ho.1 ho.2 d2, num_put l a _ _ ha.1 ha.2 d3, num_put l b _ _ hb.1 hb.2 d4, num_put l c _ _ hc.1 hc.2 d5, text_put l k _ _ hk d6, text_put l t _ _ ht d7]
theorem cmdOk_nums {w s o a b c : Int} {k t : ByteArray} (h : cmdOk w s o a b c k t = true) : (-1 ≤ w ∧ w ≤ 3) ∧ (0 ≤ s ∧ s ≤ 100000) ∧ (0 ≤ o ∧ o ≤ 100000) ∧ (0 ≤ a ∧ a ≤ 100000) ∧ (0 ≤ b ∧ b ≤ 100000) ∧ (0 ≤ c ∧ c ≤ 100000) := by
  unfold cmdOk at h
  by_cases q : w = -1
  · rw [if_pos q] at h
    simp only [Bool.and_eq_true, beq_iff_eq] at h
    omega
  · rw [if_neg q] at h
    simp only [Bool.and_eq_true, inb_true] at h
    omega
theorem cmdOf_put (l : List Int) (w s o a b c : Int) (k t : ByteArray) (p : Nat) (rest : List Int) (hk : k.size ≤ 1048576) (ht : t.size ≤ 1048576) (ok : cmdOk w s o a b c k t = true) (hd : l.drop p = cmdBytes w s o a b c k t ++ rest) :
    cmdOf l (p : Int) = (w, s, o, a, b, c, k, t, ((p + (cmdBytes w s o a b c k t).length : Nat) : Int), true) := by
  have hr := cmdOk_nums ok
  unfold cmdBytes at hd ⊢
  rw [if_pos ok, cmdNums_eq] at hd ⊢
  simp only [List.append_assoc] at hd
  have e1 : wrap64 (w + 1) = w + 1 := w64 (by omega) (by omega)
  rw [e1] at hd ⊢
  have e2 : wrap64 (w + 1 - 1) = w := by rw [w64 (by omega) (by omega)]; omega
  have h7 := cmd7_put l (w + 1) s o a b c k t p rest (by omega) (by omega) (by omega) (by omega) (by omega) (by omega) hk ht hd
  rw [e2] at h7
  unfold cmdOf
  rw [h7]
  simp only
  rw [if_pos ⟨trivial, ok⟩]
  simp only [List.length_append]
  have e3 : p + (put (w + 1)).length + (put s).length + (put o).length + (put a).length + (put b).length + (put c).length + (putText k).length + (putText t).length = p + ((put (w + 1)).length + ((put s).length + ((put o).length + ((put a).length + ((put b).length + (put c).length)))) + (putText k).length + (putText t).length) := by omega
  rw [e3]
/-- these bytes stand from p on, to q -/
def Wr (l : List Int) (p : Nat) (bs : List Int) (q : Nat) : Prop := q = p + bs.length ∧ ∃ t, l.drop p = bs ++ t
theorem wr_trans {l : List Int} {p q r : Nat} {a b : List Int} (h : Wr l p a q) (k : Wr l q b r) : Wr l p (a ++ b) r := by
  obtain ⟨h1, t, h2⟩ := h
  obtain ⟨k1, u, k2⟩ := k
  refine ⟨by rw [List.length_append]; omega, u, ?_⟩
  have := drop_on h2
  rw [← h1, k2] at this
  rw [h2, ← this, List.append_assoc]
theorem num_back (l : List Int) (hl : ∀ x ∈ l, 0 ≤ x ∧ x ≤ 255) (a : Int) (ok : Bool) (h : (num l a ok).2.2 = true) : ok = true ∧ (0 ≤ (num l a ok).1 ∧ (num l a ok).1 ≤ 2147483647) ∧ ∃ p q : Nat, a = (p : Int) ∧ (num l a ok).2.1 = (q : Int) ∧ Wr l p (put (num l a ok).1) q := by
  unfold num at h ⊢
  by_cases c : (getNum l a).2.2 = true ∧ ok = true
  · have g := getNum_ok l hl a c.1
    rw [if_pos c]
    obtain ⟨p, rfl⟩ := Int.eq_ofNat_of_zero_le g.2.2.1
    have := put_getNum l hl p c.1
    exact ⟨c.2, ⟨g.1, g.2.1⟩, p, _, rfl, this.1, rfl, this.2⟩
  · rw [if_neg c] at h
    cases h
theorem text_back (l : List Int) (hl : ∀ x ∈ l, 0 ≤ x ∧ x ≤ 255) (a : Int) (ok : Bool) (h : (text l a ok).2.2 = true) : ok = true ∧ ∃ p q : Nat, a = (p : Int) ∧ (text l a ok).2.1 = (q : Int) ∧ Wr l p (putText (text l a ok).1) q := by
  unfold text at h ⊢
  by_cases c : (getText l a).2.2 = true ∧ ok = true
  · have g : 0 ≤ a := by
      have c1 := c.1
      unfold getText at c1
      by_cases z : (getNum l a).2.2 = true
      · exact (getNum_ok l hl a z).2.2.1
      · rw [if_neg z] at c1
        cases c1
    rw [if_pos c]
    obtain ⟨p, rfl⟩ := Int.eq_ofNat_of_zero_le g
    have := put_getText l hl p c.1
    exact ⟨c.2, p, _, rfl, this.1, rfl, this.2⟩
  · rw [if_neg c] at h
    cases h
/-- a command that is read was written -/
theorem cmdOf_back (l : List Int) (hl : ∀ x ∈ l, 0 ≤ x ∧ x ≤ 255) (a : Int) (h : (cmdOf l a).2.2.2.2.2.2.2.2.2 = true) : ∃ p q : Nat, a = (p : Int) ∧ (cmdOf l a).2.2.2.2.2.2.2.2.1 = (q : Int) ∧ q ≤ l.length ∧
    Wr l p (cmdBytes (cmdOf l a).1 (cmdOf l a).2.1 (cmdOf l a).2.2.1 (cmdOf l a).2.2.2.1 (cmdOf l a).2.2.2.2.1 (cmdOf l a).2.2.2.2.2.1 (cmdOf l a).2.2.2.2.2.2.1 (cmdOf l a).2.2.2.2.2.2.2.1) q := by
  unfold cmdOf at h ⊢
  by_cases c : (cmd7 l a true).2.2.2.2.2.2.2.2.2 = true ∧ cmdOk (cmd7 l a true).1 (cmd7 l a true).2.1 (cmd7 l a true).2.2.1 (cmd7 l a true).2.2.2.1 (cmd7 l a true).2.2.2.2.1 (cmd7 l a true).2.2.2.2.2.1 (cmd7 l a true).2.2.2.2.2.2.1 (cmd7 l a true).2.2.2.2.2.2.2.1 = true
  · simp only [if_pos c]
    obtain ⟨c1, c2⟩ := c
    unfold cmdBytes
    rw [if_pos c2, cmdNums_eq]
    clear h
    unfold cmd7 at c1 c2 ⊢
    simp only at c1 c2 ⊢
    obtain ⟨o7, p7, q7, e7, f7, w7⟩ := text_back l hl _ _ c1
    obtain ⟨o6, p6, q6, e6, f6, w6⟩ := text_back l hl _ _ o7
    obtain ⟨o5, _, p5, q5, e5, f5, w5⟩ := num_back l hl _ _ o6
    obtain ⟨o4, _, p4, q4, e4, f4, w4⟩ := num_back l hl _ _ o5
    obtain ⟨o3, _, p3, q3, e3, f3, w3⟩ := num_back l hl _ _ o4
    obtain ⟨o2, _, p2, q2, e2, f2, w2⟩ := num_back l hl _ _ o3
    obtain ⟨o1, _, p1, q1, e1, f1, w1⟩ := num_back l hl _ _ o2
    obtain ⟨_, r0, p0, q0, e0, f0, w0⟩ := num_back l hl _ _ o1
    have hw : wrap64 (wrap64 ((num l a true).1 - 1) + 1) = (num l a true).1 := by
      rw [w64 (x := (num l a true).1 - 1) (by omega) (by omega), w64 (by omega) (by omega)]
      omega
    rw [hw]
    obtain rfl : p7 = q6 := by omega
    obtain rfl : p6 = q5 := by omega
    obtain rfl : p5 = q4 := by omega
    obtain rfl : p4 = q3 := by omega
    obtain rfl : p3 = q2 := by omega
    obtain rfl : p2 = q1 := by omega
    obtain rfl : p1 = q0 := by omega
    have all := wr_trans (wr_trans (wr_trans w0 (wr_trans w1 (wr_trans w2 (wr_trans w3 (wr_trans w4 w5))))) w6) w7
    refine ⟨p0, q7, e0, f7, ?_, all⟩
    obtain ⟨z1, t, z2⟩ := all
    have : (l.drop p0).length = _ := congrArg List.length z2
    rw [List.length_drop, List.length_append] at this
    rcases Nat.lt_or_ge p0 l.length with q | q
    · omega
    · have := getText_le
      have g := (w7.1)
      have b := e0
      have : (num l a true).2.2 = true := o1
      unfold num at this
      by_cases cc : (getNum l a).2.2 = true ∧ true = true
      · have g := getNum_ok l hl a cc.1
        omega
      · rw [if_neg cc] at this
        cases this
  · rw [if_neg c] at h
    cases h
end Go.Proofs.Ytiknkolclcdajaa.L

/- Texts that are drawn: the draw comes to its end, with few bytes. Condition: a cursor that stands at no place below 0. -/
namespace Go.Proofs.Ytiknkolclcdajaa.L
open Go.RowKit Go.Proofs.YtiknkolclcdajaaW.PrintWords Go.Proofs.YtiknkolclcdajaaW.PrintLast Go.Proofs.YtiknkolclcdajaaW.PrintMore Go.Proofs.Ytiknkolclcdajaa.Q

theorem l1Pick (l : List Int) (hl : l.length ≤ 1048576) (i h : Int) (xs : List ByteArray) (hi : okC i) (h0 : 0 < xs.length) (hn : xs.length ≤ 1048576) : ∃ r, spec_l1Pick.f l i h xs = some r ∧ r.1 ∈ xs ∧ okC r.2.1 := by
  obtain ⟨r, hr, r0, r1, h2⟩ := l1Below l hl i h (xs.length : Int) hi (by omega)
  have r1 := r1 (by omega)
  unfold spec_l1Pick.f
  rw [hr, Option.bind_some, if_pos r0, if_pos r1]
  refine ⟨_, rfl, ?_, h2⟩
  obtain ⟨j, hj⟩ := Int.eq_ofNat_of_zero_le r0
  show rdOf ByteArray.empty xs r.1 ∈ xs
  have q : j < xs.length := by omega
  have e : rdOf ByteArray.empty xs r.1 = xs[j] := by
    rw [hj]
    simp [rdOf, List.getD_eq_getElem?_getD, q]
  rw [e]
  exact List.getElem_mem _
theorem l2Text (l : List Int) (hl : l.length ≤ 1048576) (i h : Int) (hi : okC i) : ∃ r, spec_l2DrawText.f l i h = some r ∧ r.1.size ≤ 4 ∧ okC r.2.1 := by
  obtain ⟨r, hr, r1, r2⟩ := l1Pick l hl i h [(⟨#[]⟩ : ByteArray), (⟨#[97]⟩ : ByteArray), (⟨#[98]⟩ : ByteArray), (⟨#[107, 32, 49]⟩ : ByteArray), (⟨#[116, 101, 120, 116]⟩ : ByteArray)] hi (by simp) (by simp)
  unfold spec_l2DrawText.f
  rw [hr, Option.bind_some]
  refine ⟨_, rfl, ?_, r2⟩
  show r.1.size ≤ 4
  simp only [List.mem_cons, List.not_mem_nil, or_false] at r1
  rcases r1 with e | e | e | e | e <;> rw [e] <;> decide
end Go.Proofs.Ytiknkolclcdajaa.L

/- Commands and their bytes that are drawn: the draw comes to its end, with few bytes. Condition: a cursor that stands at no place below 0. -/
set_option linter.unusedVariables false
namespace Go.Proofs.Ytiknkolclcdajaa.L
open Go.RowKit Go.Proofs.YtiknkolclcdajaaW.PrintWords Go.Proofs.YtiknkolclcdajaaW.PrintLast Go.Proofs.YtiknkolclcdajaaW.PrintMore Go.Proofs.Ytiknkolclcdajaa.Q

/-- a list of bytes -/
def byt (l : List Int) : Prop := ∀ x ∈ l, 0 ≤ x ∧ x ≤ 255
theorem byt_nil : byt [] := fun x hx => absurd hx (List.not_mem_nil)
theorem byt_app {a b : List Int} (h : byt a) (k : byt b) : byt (a ++ b) := fun x hx => (List.mem_append.1 hx).elim (h x) (k x)
theorem byt_take {a : List Int} (h : byt a) (n : Nat) : byt (a.take n) := fun x hx => h x (List.mem_of_mem_take hx)
theorem byt_drop {a : List Int} (h : byt a) (n : Nat) : byt (a.drop n) := fun x hx => h x (List.mem_of_mem_drop hx)
theorem byt_mod (x : Int) : byt [x % 256] := fun y hy => by rw [List.mem_singleton] at hy; subst hy; omega
theorem byt_enc : ∀ (d : Nat) (x : Int), 0 ≤ x → byt (enc d x) := by
  intro d
  induction d with
  | zero => intro x _; exact byt_mod x
  | succ d ih =>
    intro x h
    unfold enc
    split
    · intro y hy
      rcases List.mem_cons.1 hy with rfl | hy
      · omega
      · exact ih (x / 128) (by omega) y hy
    · exact byt_mod x
theorem byt_put (x : Int) : byt (put x) := by
  unfold put
  split
  · rename_i h
    exact byt_enc 4 x h.1
  · exact byt_nil
theorem byt_bytesOf (s : ByteArray) : byt (bytesOf s) := by
  intro x hx
  unfold bytesOf at hx
  obtain ⟨b, _, rfl⟩ := List.mem_map.1 hx
  have := b.toNat_lt
  omega
theorem byt_putAll (l : List Int) : ∀ (d i : Nat), byt (putAll l d i) := by
  intro d
  induction d with
  | zero => intro i; exact byt_nil
  | succ d ih => intro i; exact byt_app (byt_put _) (ih (i + 1))
theorem byt_cmd (w s o a b c : Int) (k t : ByteArray) : byt (cmdBytes w s o a b c k t) := by
  unfold cmdBytes
  split
  · exact byt_app (byt_app (byt_putAll _ 6 0) (byt_app (byt_put _) (byt_bytesOf k))) (byt_app (byt_put _) (byt_bytesOf t))
  · exact byt_nil
/-- a drawn command: texts of at most m bytes, and the cursor's place -/
def okD (m : Nat) (x : Int × Int × Int × Int × Int × Int × ByteArray × ByteArray × Int × Int) : Prop := x.2.2.2.2.2.2.1.size ≤ m ∧ x.2.2.2.2.2.2.2.1.size ≤ m ∧ okC x.2.2.2.2.2.2.2.2.1
theorem l2Body (l : List Int) (hl : l.length ≤ 1048576) (ci ch : Int) (hc : okC ci) : Dr (fun _ => spec_l2DrawBody.f l ci ch) (okD 4) := by
  unfold spec_l2DrawBody.f
  refine dr_some (l1PickInt l hl ci ch _ hc (by simp) (by simp)) (fun r hr => dr_some (l1Below l hl _ _ 3 hr.2 (by omega)) (fun s hs => dr_some (l1Below l hl _ _ 4 hs.2.2 (by omega)) (fun u hu => dr_some (l1Below l hl _ _ 3 hu.2.2 (by omega)) (fun v hv => ?_))))
  refine dr_ite (fun _ => ?_) (fun _ => dr_ite (fun _ => ?_) (fun _ => ?_))
  · exact dr_some (l2Text l hl _ _ hv.2.2) (fun a ha => dr_some (l2Text l hl _ _ ha.2) (fun b hb => dr_some (l1PickInt l hl _ _ _ hb.2 (by simp) (by simp)) (fun c hc => dr_now ⟨ha.1, hb.1, hc.2⟩)))
  · exact dr_some (l1PickInt l hl _ _ _ hv.2.2 (by simp) (by simp)) (fun c hc => dr_now ⟨by show (⟨#[]⟩ : ByteArray).size ≤ 4; decide, by show (⟨#[]⟩ : ByteArray).size ≤ 4; decide, hc.2⟩)
  · exact dr_now ⟨by show (⟨#[]⟩ : ByteArray).size ≤ 4; decide, by show (⟨#[]⟩ : ByteArray).size ≤ 4; decide, hv.2.2⟩
theorem l2Right (l : List Int) (hl : l.length ≤ 1048576) (ci ch : Int) (hc : okC ci) : Dr (fun _ => spec_l2DrawRight.f l ci ch) (okD 4) := by
  unfold spec_l2DrawRight.f
  refine dr_some (l1Once l hl ci ch 10 hc (by omega)) (fun r hr => dr_ite (fun _ => ?_) (fun _ => ?_))
  · exact dr_now ⟨by show (⟨#[]⟩ : ByteArray).size ≤ 4; decide, by show (⟨#[]⟩ : ByteArray).size ≤ 4; decide, hr⟩
  · exact dr_bind (l2Body l hl _ _ hr) (fun x hx => dr_some (l1Below l hl _ _ 4 hx.2.2 (by omega)) (fun s hs => dr_some (l1Below l hl _ _ 6 hs.2.2 (by omega)) (fun u hu => dr_now ⟨hx.1, hx.2.1, hu.2.2⟩)))
theorem l2Spoil (l : List Int) (hl : l.length ≤ 1048576) (ci ch w s o a b c : Int) (k t : ByteArray) (hc : okC ci) (hk : k.size ≤ 4) (ht : t.size ≤ 4) : Dr (fun _ => spec_l2Spoil.f l ci ch w s o a b c k t) (okD 31) := by
  have hk2 : k.size ≤ 31 := by omega
  have ht2 : t.size ≤ 31 := by omega
  unfold spec_l2Spoil.f
  refine dr_some (l1Below l hl ci ch 14 hc (by omega)) (fun r hr => ?_)
  refine dr_ite (fun _ => ?_) (fun _ => dr_ite (fun _ => ?_) (fun _ => dr_ite (fun _ => ?_) (fun _ => dr_ite (fun _ => ?_) (fun _ => dr_ite (fun _ => ?_) (fun _ => ?_)))))
  · exact dr_some (l1PickInt l hl _ _ _ hr.2.2 (by simp) (by simp)) (fun q hq => dr_now ⟨hk2, ht2, hq.2⟩)
  · exact dr_some (l1PickInt l hl _ _ _ hr.2.2 (by simp) (by simp)) (fun q hq => dr_now ⟨hk2, ht2, hq.2⟩)
  · exact dr_some (l1PickInt l hl _ _ _ hr.2.2 (by simp) (by simp)) (fun q hq => dr_now ⟨hk2, ht2, hq.2⟩)
  · exact dr_some (l1PickInt l hl _ _ _ hr.2.2 (by simp) (by simp)) (fun q hq => dr_now ⟨hk2, ht2, hq.2⟩)
  · refine dr_some (l1Pick l hl _ _ _ hr.2.2 (by simp) (by simp)) (fun q hq => dr_now ⟨?_, ht2, hq.2⟩)
    have := hq.1
    simp only [List.mem_cons, List.not_mem_nil, or_false] at this
    show q.1.size ≤ 31
    rcases this with e | e <;> rw [e] <;> decide
  · exact dr_now ⟨hk2, ht2, hr.2.2⟩
theorem drawCmd (l : List Int) (hl : l.length ≤ 1048576) : Dr (fun k => spec_DrawCmdBytes.f k l) (fun x => x.2.2.2.2.2.2.1.size ≤ 31 ∧ x.2.2.2.2.2.2.2.size ≤ 31) := by
  have h : Dr (fun k => spec_DrawCmdOk.f k l) (fun x => x.2.2.2.2.2.2.1.size ≤ 31 ∧ x.2.2.2.2.2.2.2.size ≤ 31) := by
    refine dr_bind (l1New l hl) (fun c hc => ?_)
    obtain ⟨c0, ci, ch⟩ := c
    obtain ⟨rfl, hc⟩ := hc
    exact dr_bind (l2Right c0 hl ci ch hc) (fun x hx => dr_bind (l2Spoil c0 hl _ _ _ _ _ _ _ _ _ _ hx.2.2 hx.1 hx.2.1) (fun y hy => dr_now ⟨hy.1, hy.2.1⟩))
  exact dr_bind h (fun x hx => dr_now hx)
/-- drawn bytes, n of them at the most, and the cursor's place -/
def okN (n : Nat) (x : List Int × Int × Int) : Prop := byt x.1 ∧ x.1.length ≤ n ∧ okC x.2.1
theorem l7Nums_l0 (l : List Int) (hl : l.length ≤ 1048576) : ∀ (d i : Nat), i + d = 4 → ∀ (acc : List Int) (ci ch : Int), byt acc → acc.length ≤ 5 * i → okC ci → Dr (fun k => spec_l7DrawNums.l0 k acc (i : Int) l ci ch) (okN 22) := by
  have fin : ∀ (acc : List Int) (ci ch : Int), byt acc → acc.length ≤ 20 → okC ci → Dr (fun _ => (spec_l1Once.f l ci ch 3).bind fun bt419 => (if bt419.1 = true then ((spec_l1PickInt.f l bt419.2.1 bt419.2.2 (([0, 128, 255] : List Int))).bind fun bt425 => ((spec_l1Below.f l bt425.2.1 bt425.2.2 3).bind fun bt428 => ((some (([(bt425.1) % 256, (bt428.1) % 256] : List Int) : List Int)).bind fun y431 => (if acc.length + y431.length < 140737488355328 then (some ((acc ++ y431), bt428.2.1, bt428.2.2)) else (none))))) else (some (acc, bt419.2.1, bt419.2.2)))) (okN 22) := by
    intro acc ci ch hb hn hc
    refine dr_some (l1Once l hl ci ch 3 hc (by omega)) (fun r hr => dr_ite (fun _ => ?_) (fun _ => dr_now ⟨hb, by show acc.length ≤ 22; omega, hr⟩))
    refine dr_some (l1PickInt l hl _ _ _ hr (by simp) (by simp)) (fun s hs => dr_some (l1Below l hl _ _ 3 hs.2 (by omega)) (fun u hu => dr_eq rfl (dr_pos ?_ (dr_now ⟨?_, ?_, hu.2.2⟩))))
    · show acc.length + 2 < _
      omega
    · exact byt_app hb (byt_app (a := [s.1 % 256]) (byt_mod _) (byt_mod _))
    · show (acc ++ [_, _]).length ≤ 22
      rw [List.length_append]
      show acc.length + 2 ≤ 22
      omega
  intro d
  induction d with
  | zero =>
    intro i h acc ci ch hb hn hc
    refine dr_step (fun _ => by rw [spec_l7DrawNums.l0]) ?_
    refine dr_some (l1Below l hl ci ch 4 hc (by omega)) (fun r hr => ?_)
    have := hr.2.1 (by omega)
    exact dr_neg (by omega) (fin acc _ _ hb (by omega) hr.2.2)
  | succ d ih =>
    intro i h acc ci ch hb hn hc
    have e : wrap64 ((i : Int) + 1) = ((i + 1 : Nat) : Int) := by rw [w64 (by omega) (by omega)]; omega
    refine dr_step (fun _ => by rw [spec_l7DrawNums.l0]) ?_
    rw [e]
    refine dr_some (l1Below l hl ci ch 4 hc (by omega)) (fun r hr => dr_ite (fun _ => ?_) (fun _ => fin acc _ _ hb (by omega) hr.2.2))
    refine dr_some (l1PickInt l hl _ _ _ hr.2.2 (by simp) (by simp)) (fun s hs => dr_bind (dr_of (P := fun y => y = put s.1) (specPut s.1) rfl) (fun y hy => ?_))
    subst hy
    have hp := put_len s.1
    exact dr_pos (by omega) (ih (i + 1) (by omega) _ _ _ (byt_app hb (byt_put _)) (by rw [List.length_append]; omega) hs.2)
theorem l7Nums (l : List Int) (hl : l.length ≤ 1048576) (ci ch : Int) (hc : okC ci) : Dr (fun k => spec_l7DrawNums.f k l ci ch) (okN 22) := l7Nums_l0 l hl 4 0 rfl _ _ _ byt_nil (by simp) hc
theorem l7Dent (l : List Int) (hl : l.length ≤ 1048576) (ci ch : Int) (hc : okC ci) (b : List Int) (n : Nat) (hb : byt b) (hn : b.length ≤ n) (hn2 : n ≤ 1000) : Dr (fun _ => spec_l7Dent.f l ci ch b) (okN (n + 1)) := by
  unfold spec_l7Dent.f
  have e : wrap64 ((b.length : Int) + 1) = (b.length : Int) + 1 := w64 (by omega) (by omega)
  rw [e]
  refine dr_some (l1Below l hl ci ch _ hc (by omega)) (fun r hr => dr_some (l1Below l hl _ _ 5 hr.2.2 (by omega)) (fun s hs => ?_))
  have r0 := hr.1
  have r1 := hr.2.1 (by omega)
  refine dr_ite (fun _ => ?_) (fun _ => dr_ite (fun _ => ?_) (fun _ => dr_now ⟨hb, by show b.length ≤ n + 1; omega, hs.2.2⟩))
  · refine dr_pos r0 (dr_pos (by omega) (dr_now ⟨byt_take hb _, ?_, hs.2.2⟩))
    show (b.take _).length ≤ n + 1
    rw [List.length_take]
    omega
  · refine dr_eq rfl (dr_pos r0 (dr_pos (by omega) (dr_eq rfl (dr_pos ?_ (dr_eq rfl ?_)))))
    · simp only [List.length_nil, List.length_take]
      omega
    · refine dr_some (l1PickInt l hl _ _ _ hs.2.2 (by simp) (by simp)) (fun u hu => dr_eq rfl (dr_eq rfl (dr_pos ?_ (dr_eq rfl (dr_pos ?_ (dr_now ⟨?_, ?_, hu.2⟩))))))
      · simp only [List.length_singleton, List.length_drop]
        omega
      · simp only [List.nil_append, List.length_append, List.length_singleton, List.length_take, List.length_drop]
        omega
      · exact byt_app (byt_app byt_nil (byt_take hb _)) (byt_app (byt_mod _) (byt_drop hb _))
      · show ((_ ++ _) ++ ([_] ++ _)).length ≤ n + 1
        simp only [List.nil_append, List.length_append, List.length_singleton, List.length_take, List.length_drop]
        omega
theorem drawCmdOf (l : List Int) (hl : l.length ≤ 1048576) : Dr (fun k => spec_DrawCmdOf.f k l) (fun x => byt x.1 ∧ x.1.length ≤ 1000 ∧ x.2 ≤ 1000) := by
  refine dr_bind (l1New l hl) (fun c hc => ?_)
  obtain ⟨c0, ci, ch⟩ := c
  obtain ⟨rfl, hc⟩ := hc
  refine dr_bind (l2Right c0 hl ci ch hc) (fun x hx => ?_)
  have hk := hx.1
  have ht := hx.2.1
  refine dr_bind (dr_of (P := fun y => byt y ∧ y.length ≤ 48) (specCmdBytes x.1 x.2.1 x.2.2.1 x.2.2.2.1 x.2.2.2.2.1 x.2.2.2.2.2.1 x.2.2.2.2.2.2.1 x.2.2.2.2.2.2.2.1 (by omega) (by omega)) ⟨byt_cmd _ _ _ _ _ _ _ _, by have := cmdBytes_len x.1 x.2.1 x.2.2.1 x.2.2.2.1 x.2.2.2.2.1 x.2.2.2.2.2.1 x.2.2.2.2.2.2.1 x.2.2.2.2.2.2.2.1; omega⟩) (fun y hy => ?_)
  refine dr_bind (l7Nums c0 hl _ _ hx.2.2) (fun z hz => ?_)
  have hyl := hy.2
  have hzl := hz.2.1
  refine dr_pos (by omega) (dr_bind (l7Dent c0 hl _ _ hz.2.2 (y ++ z.1) 70 (byt_app hy.1 hz.1) (by rw [List.length_append]; omega) (by omega)) (fun u hu => ?_))
  have hul := hu.2.1
  refine dr_some (l1PickInt c0 hl _ _ _ hu.2.2 (by simp) (by simp)) (fun v hv => dr_now ⟨hu.1, by show u.1.length ≤ 1000; omega, ?_⟩)
  have := hv.1
  simp only [List.mem_cons, List.not_mem_nil, or_false] at this
  show v.1 ≤ 1000
  rcases this with e | e | e | e | e | e <;> rw [e] <;> omega
end Go.Proofs.Ytiknkolclcdajaa.L

/- FnCmdBytes as a plain statement: proved for all arguments. -/
set_option linter.unusedVariables false
namespace Go.Proofs.Ytiknkolclcdajaa.Pure
open Go.RowKit Go.Proofs.YtiknkolclcdajaaW.PrintWords Go.Proofs.YtiknkolclcdajaaW.PrintLast Go.Proofs.YtiknkolclcdajaaW.PrintMore Go.Proofs.Ytiknkolclcdajaa.Q Go.Proofs.Ytiknkolclcdajaa.L

theorem cmdOf_size (l : List Int) (h : okL7 l) (a : Int) : (cmdOf l a).2.2.2.2.2.2.1.size ≤ 1048576 ∧ (cmdOf l a).2.2.2.2.2.2.2.1.size ≤ 1048576 := by
  have := cmd7_size l h a true
  unfold cmdOf
  dsimp only
  split
  · exact this
  · exact ⟨by show (⟨#[]⟩ : ByteArray).size ≤ _; decide, by show (⟨#[]⟩ : ByteArray).size ≤ _; decide⟩
theorem cmdBytes_pos (w s o a b c : Int) (k t : ByteArray) : decide (((cmdBytes w s o a b c k t).length : Int) > 0) = cmdOk w s o a b c k t := by
  unfold cmdBytes
  cases h : cmdOk w s o a b c k t with
  | false => simp
  | true =>
    rw [if_pos rfl]
    have : 0 < (putText t).length := by
      unfold putText
      rw [List.length_append, bytesOf_length]
      by_cases z : t.size = 0
      · rw [z]
        decide
      · omega
    simp only [List.length_append, decide_eq_true_eq]
    omega
theorem at_ok (l : List Int) : ∃ v, laws_at.f l 1 = some v := by
  unfold laws_at.f
  split
  · rw [if_pos (by omega)]
    exact ⟨_, rfl⟩
  · exact ⟨_, rfl⟩
theorem cmd_fin (l : List Int) (w s o a b c : Int) (k t : ByteArray) (hk : k.size ≤ 31) (ht : t.size ≤ 31) : Ev (fun n => laws_FnCmdBytes.j1 n l (cmdBytes w s o a b c k t) false w s o a b c k t) true := by
  have hl := cmdBytes_len w s o a b c k t
  have hb := byt_cmd w s o a b c k t
  have hp := cmdBytes_pos w s o a b c k t
  refine ev_step (fun _ => by rw [laws_FnCmdBytes.j1]) ?_
  refine ev_neg (by simp) ?_
  by_cases z : ((cmdBytes w s o a b c k t).length : Int) = 0
  · exact ev_pos z (ev_now rfl)
  · have ok : cmdOk w s o a b c k t = true := by rw [← hp]; simp only [decide_eq_true_eq]; omega
    obtain ⟨v, hv⟩ := at_ok l
    have hd : (([] ++ cmdBytes w s o a b c k t) ++ [v % 256]).drop 0 = cmdBytes w s o a b c k t ++ [v % 256] := by simp
    have e := cmdOf_put (([] ++ cmdBytes w s o a b c k t) ++ [v % 256]) w s o a b c k t 0 [v % 256] (by omega) (by omega) ok hd
    have okl : okL7 (([] ++ cmdBytes w s o a b c k t) ++ [v % 256]) := ⟨byt_app (byt_app byt_nil hb) (byt_mod v), by simp only [List.nil_append, List.length_append, List.length_singleton]; omega⟩
    have r := implCmdOf _ okl 0 (by omega)
    have e' : cmdOf (([] ++ cmdBytes w s o a b c k t) ++ [v % 256]) 0 = _ := e
    rw [e'] at r
    refine ev_neg z (ev_some rfl (ev_pos (by show (0 : Nat) + _ < _; omega) (ev_some rfl (ev_some hv (ev_pos (by rw [List.nil_append]; omega) ?_)))))
    exact ev_bind r (ev_pos rfl (ev_pos (by simp) (ev_now (by simp))))
theorem FnCmdBytes (l : List Int) (_ : l.length ≤ maxLen ∧ ∀ y ∈ l, (Lit.int .u8 y).wf = true) : ∃ k, laws_FnCmdBytes.f k l = some true := by
  refine Ev.rounds (g := fun k => laws_FnCmdBytes.f k l) ?_
  refine ev_some rfl (ev_ite (fun _ => ev_now rfl) (fun h => ?_))
  have hn : l.length ≤ 1048576 := by simp only [decide_eq_true_eq] at h; omega
  obtain ⟨⟨w, s, o, a, b, c, k, t⟩, hd, hk, ht⟩ := drawCmd l hn
  obtain ⟨⟨raw, i⟩, hr, hb, hlen, hat⟩ := drawCmdOf l hn
  have hk : k.size ≤ 31 := hk
  have ht : t.size ≤ 31 := ht
  have hb : byt raw := hb
  have hlen : raw.length ≤ 1000 := hlen
  have hat : i ≤ 1000 := hat
  have okraw : okL7 raw := ⟨hb, by omega⟩
  have e1 := implCmdBytes w s o a b c k t (by omega) (by omega)
  have e2 := specCmdBytes w s o a b c k t (by omega) (by omega)
  have e3 := implCmdOf raw okraw i (by omega)
  have e4 := specCmdOf raw okraw i (by omega)
  have e5 := implCmd w s o a b c k t (by unfold maxLen; omega) (by unfold maxLen; omega)
  have hp := cmdBytes_pos w s o a b c k t
  have hz := cmdOf_size raw okraw i
  have back := cmdOf_back raw hb i
  have fin := cmd_fin l w s o a b c k t hk ht
  generalize cmdOf raw i = d at e3 e4 hz back
  obtain ⟨d1, d2, d3, d4, d5, d6, d7, d8, nx, ok⟩ := d
  simp only at hz back
  have e6 := implCmdBytes d1 d2 d3 d4 d5 d6 d7 d8 hz.1 hz.2
  refine ev_bind hd (ev_bind e1 (ev_bind hr (ev_bind e3 (ev_bind e4 (ev_bind e2 (ev_pos rfl (ev_bind e5 (ev_neg (by rw [hp]; simp) (ev_neg (by simp) (ev_neg (by simp) ?_))))))))))
  refine ev_step (fun _ => by rw [laws_FnCmdBytes.j0]) ?_
  refine ev_neg (by simp) ?_
  cases ok with
  | false => exact ev_neg (by simp) fin
  | true =>
    obtain ⟨p, q, hp2, hq, hql, hw⟩ := back rfl
    have hp2 : i = (p : Int) := hp2
    have hq : nx = (q : Int) := hq
    obtain ⟨hw1, tl, hw2⟩ := hw
    refine ev_pos rfl (ev_bind e6 (ev_pos (by show (0 : Int) ≤ i; omega) (ev_pos (by show i ≤ nx; omega) (ev_pos (by show nx ≤ (raw.length : Int); omega) ?_))))
    have tb := take_back hw2
    rw [← hw1] at tb
    have e : (raw.take nx.toNat).drop i.toNat = cmdBytes d1 d2 d3 d4 d5 d6 d7 d8 := by
      rw [hq, hp2, Int.toNat_natCast, Int.toNat_natCast]
      exact tb
    show Ev (fun n => laws_FnCmdBytes.j1 n l (cmdBytes w s o a b c k t) ((strOfNums (cmdBytes d1 d2 d3 d4 d5 d6 d7 d8)).toList != (strOfNums ((raw.take nx.toNat).drop i.toNat)).toList) w s o a b c k t) true
    rw [e]
    simpa using fin
end Go.Proofs.Ytiknkolclcdajaa.Pure

/- The law FnCmdBytes: its statement holds, for all arguments. Made by a program of ours out of the plain theorem and the walk. No condition. -/
namespace Go.Proofs.Ytiknkolclcdajaa.fnCmdBytes
open Go.ChangeShapes Go.WideShapes Go.ChangeAt Go.RowKit Go.Proofs.YtiknkolclcdajaaW.PrintWords Go.Proofs.Ytiknkolclcdajaa.Q Go.Proofs.Ytiknkolclcdajaa.R
open Go.ChangeMaps (open_string shut_string)
set_option linter.unusedVariables false
theorem own : ownKnob Try.prog.godebug = none := by kernel_rfl
theorem laidOut : laidOutB Try.prog = true := by kernel_rfl
set_option maxRecDepth 100000 in
theorem lifted (os : Os) (started : os.Started) (H : Type) (enc : TypeId × Value → H) :
    ReturnsInHanded {} Try.checked os 10 .any (Rows.fnCmdBytesSpec.pre6 enc Try.prog Try.f10 Rows.fnCmdBytesRow.domain false) (Rows.fnCmdBytesSpec.post enc Try.prog Try.f10 false true false false) := by
  refine returnsInHanded_of_change_sized (C := Try.checked) own started (by kernel_rfl) Try.func10
    (ChangeSpec.witness6 (enc := enc) (C := Try.checked) false ⟨#[], #[.slice none 0 0], []⟩ 8 (by kernel_rfl) (by kernel_rfl) (by kernel_rfl) (by kernel_rfl)) ?_
  intro W base args ds gs before hval0 hW hcnd hsz0 _
  have hval : ∀ (j : Nat) t v, Try.f10.params[j]? = some t → args[j]? = some v → Value.okWide Try.prog W .any base t v := hval0
  have hW' := hW
  obtain ⟨p, q, hA0, hV, rfl, hfz, hnd⟩ := hW
  have hA : DataW.TrodAll enc Try.prog W 0 (fun _ => true) true Try.f10.params.toList args.toList ds p := hA0
  rw [Try.params10] at hA hval
  obtain ⟨v0, vs0, d0, ds0, p0, q0, hargs, rfl, rfl, h0, r0⟩ := trodAll_cons hA
  obtain ⟨rfl, rfl, rfl⟩ := trodAll_nil r0
  obtain rfl : args = #[v0] := by cases args; simp_all
  obtain ⟨rfl, rfl⟩ := trodVars_none hV
  have k0 := h0
  have lt0 : ∀ x ∈ p0, x.block < W.heap.size := by obtain ⟨m, hm⟩ := k0; exact DataW.trod_lt m _ _ _ hm
  obtain ⟨A0, len0, c0, rfl⟩ := okWide_slice Try.underlying22 (hval 0 22 v0 rfl rfl)
  obtain ⟨fuel0, hf0⟩ := h0
  obtain ⟨l0, ⟨A0', c0', hz0, hc0, hr0⟩, w0⟩ := (rd_slice Try.underlying22 (by kernel_rfl) (rd_int Try.underlying5)) H enc W 0 (fun _ => true) true fuel0 _ _ hf0
  obtain ⟨rfl, rfl, rfl⟩ : A0 = A0' ∧ len0 = l0.length ∧ c0 = c0' := by simpa [Value.cells] using hz0
  clear hA0 hval0 hsz0
  obtain ⟨k, hk⟩ := Pure.FnCmdBytes l0 w0
  refine (laws_FnCmdBytes.calls (w := W) (hr0 := hr0) (hc0 := hc0) (h := hk)).mono fun e W' he => ?_
  obtain ⟨rfl, bel0⟩ := he
  have bel : Below W.heap.size W W' := by first | exact bel0 | exact Drawn0.below bel0
  exact ⟨_, rfl, _, _, _, [], _, [], hW', trodAll_mk1 (shut_bool Try.underlying4 _), (trodAll_cons_mk (Below.trod laidOut (by kernel_rfl) (of_decide_eq_true (by kernel_rfl)) k0 bel lt0) trodAll_mk0), rfl, bel.frame _, fun h => by cases h⟩
theorem over : Rows.fnCmdBytesRow.holds Try.pinned (OpenSpec.ofChange Rows.fnCmdBytesSpec) :=
  OpenClaim.holds_of_wide 10 Try.f10 rfl rfl rfl rfl rfl rfl rfl ⟨rfl, rfl, rfl, rfl, rfl⟩ rfl rfl rfl rfl rfl (by kernel_rfl) Try.func10 (by kernel_rfl)
    (of_decide_eq_true (by kernel_rfl)) (by unfold Func.isWrapper; first | (rw [if_pos (by decide +kernel)]; kernel_rfl) | (rw [if_neg (by decide +kernel)]; exact ⟨rfl, rfl⟩))
    (fun os started H enc _ => lifted os started H enc)
end Go.Proofs.Ytiknkolclcdajaa.fnCmdBytes
namespace Go.Proofs.Ytiknkolclcdajaa
/-- The row, under a short name, for the claim. -/
theorem fnCmdBytes_holds : Rows.FnCmdBytesSaid := fnCmdBytes.over
#print axioms fnCmdBytes_holds
end Go.Proofs.Ytiknkolclcdajaa

