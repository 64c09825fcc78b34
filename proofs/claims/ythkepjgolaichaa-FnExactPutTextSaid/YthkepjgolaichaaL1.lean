/- The plain side of numbers and texts as bytes: what the program's and the reference's PutNum, GetNum, PutText, GetText come to, and that the two are one. Condition: lists of bytes of at most 2^20 elements. -/
import Derived.Test.YthkepjgolaichaaL0
import Derived.Test.YthkepjgolaichaaQ0
import Derived.Test.YthkepjgolaichaaQ10
import Derived.Test.YthkepjgolaichaaQ19
import Derived.Test.YthkepjgolaichaaQ3
import Derived.Test.YthkepjgolaichaaQ8
import Derived.Test.YthkepjgolaichaaQ9
namespace Go.Proofs.Ythkepjgolaichaa.L
open Go.RowKit Go.Proofs.YthkepjgolaichaaW.PrintWords Go.Proofs.YthkepjgolaichaaW.PrintLast Go.Proofs.YthkepjgolaichaaW.PrintMore Go.Proofs.Ythkepjgolaichaa.Q

/-- the bytes of a number, d + 1 of them at the most -/
def enc : Nat → Int → List Int
  | 0, x => [x % 256]
  | d + 1, x => if x > 127 then (x % 128 + 128) :: enc d (x / 128) else [x % 256]
theorem enc_len (d : Nat) (x : Int) : (enc d x).length ≤ d + 1 := by
  induction d generalizing x with
  | zero => simp [enc]
  | succ d ih =>
    unfold enc
    split
    · have := ih (x / 128); simp only [List.length_cons]; omega
    · simp

theorem and127 (x : Int) (h0 : 0 ≤ x) (h1 : x < 4611686018427387904) : Go.bits .and .i64 x 127 = x % 128 :=
  bits_mask .i64 62 (by decide) (fun n a b => by rw [IntKind.wrap_i64]; omega) 7 (by decide) x h0 h1
theorem and127b (x : Int) (h0 : 0 ≤ x) (h1 : x ≤ 255) : Go.bits .and .u8 x 127 = x % 128 :=
  bits_mask .u8 8 (by decide) wraps_u8 7 (by decide) x h0 (by omega)
theorem or128 (x : Int) (h0 : 0 ≤ x) (h1 : x < 128) : Go.bits .or .u8 x 128 = x + 128 := by
  have h := bits_join .u8 8 (by decide) wraps_u8 7 128 x (by decide) (by decide) (by decide) h0 h1 (by omega)
  have hc : Go.bits .or .u8 x 128 = Go.bits .or .u8 128 x := by
    obtain ⟨a, rfl⟩ := Int.eq_ofNat_of_zero_le h0
    have ha : a < 2 ^ 8 := by omega
    show Go.bits .or .u8 (a : Int) ((128 : Nat) : Int) = Go.bits .or .u8 ((128 : Nat) : Int) (a : Int)
    rw [(bits_nat .u8 8 (by decide) wraps_u8 a 128 ha (by decide)).2, (bits_nat .u8 8 (by decide) wraps_u8 128 a (by decide) ha).2, Nat.or_comm]
  rw [hc, h]
  omega
theorem or_join (i : Nat) (x y : Int) (hi : i ≤ 62) (h0 : 0 ≤ x) (h1 : x < 2 ^ i) (h2 : 0 ≤ y) (h3 : y % 2 ^ i = 0) (h4 : y < 4611686018427387904) : Go.bits .or .i64 x y = x + y := by
  have hw : ∀ n : Int, 0 ≤ n → n < 2 ^ 62 → IntKind.i64.wrap n = n := fun n a b => by rw [IntKind.wrap_i64]; omega
  have hp : (2 : Int) ^ i ≤ 2 ^ 62 := by
    have := Nat.pow_le_pow_right (n := 2) (by decide) hi
    exact_mod_cast this
  have h := bits_join .i64 62 (by decide) hw i y x h2 h3 (by omega) h0 h1 (by omega)
  have hc : Go.bits .or .i64 x y = Go.bits .or .i64 y x := by
    obtain ⟨a, rfl⟩ := Int.eq_ofNat_of_zero_le h0
    obtain ⟨b, rfl⟩ := Int.eq_ofNat_of_zero_le h2
    have ha : a < 2 ^ 62 := by omega
    have hb : b < 2 ^ 62 := by omega
    rw [(bits_nat .i64 62 (by decide) hw a b ha hb).2, (bits_nat .i64 62 (by decide) hw b a hb ha).2, Nat.or_comm]
  rw [hc, h]
  omega

theorem specPut_l0 (d : Nat) : ∀ (x : Int) (acc : List Int), 0 ≤ x → x < 128 ^ (d + 1) → x ≤ 9223372036854775807 → acc.length + d < 1000000 → Ev (fun k => spec_PutNum.l0 k x acc) (acc ++ enc d x) := by
  induction d with
  | zero =>
    intro x acc h0 h1 h2 h3
    refine ev_step (fun _ => rfl) (ev_neg (by omega) (ev_pos (by omega) (ev_now ?_)))
    simp [enc]
  | succ d ih =>
    intro x acc h0 h1 h2 h3
    refine ev_step (fun _ => rfl) ?_
    by_cases h : x > 127
    · have hd : wrap64 (Int.tdiv x 128) = x / 128 := by rw [Int.tdiv_eq_ediv_of_nonneg h0]; exact w64 (by omega) (by omega)
      have hm : (wrap64 ((Int.tmod x 128) + 128)) % 256 = x % 128 + 128 := by rw [Int.tmod_eq_emod_of_nonneg h0, w64 (by omega) (by omega)]; omega
      have hp : x / 128 < 128 ^ (d + 1) := by
        rw [Int.pow_succ] at h1
        omega
      refine ev_pos h (ev_pos (by omega) ?_)
      rw [hd, hm]
      refine ev_eq ?_ (ih (x / 128) (acc ++ [x % 128 + 128]) (by omega) hp (by omega) (by simp only [List.length_append, List.length_singleton]; omega))
      simp [enc, h]
    · refine ev_neg h (ev_pos (by omega) (ev_now ?_))
      simp [enc, h]
theorem implPut_l0 (d : Nat) : ∀ (x : Int) (acc : List Int), 0 ≤ x → x < 128 ^ (d + 1) → x < 4611686018427387904 → acc.length + d < 1000000 → Ev (fun k => impl_PutNum.l0 k x acc) (acc ++ enc d x) := by
  induction d with
  | zero =>
    intro x acc h0 h1 h2 h3
    refine ev_step (fun _ => rfl) (ev_neg (by omega) (ev_pos (by omega) (ev_now ?_)))
    simp [enc]
  | succ d ih =>
    intro x acc h0 h1 h2 h3
    refine ev_step (fun _ => rfl) ?_
    by_cases h : x > 127
    · have hm : Go.bits .or .u8 ((Go.bits .and .i64 x 127) % 256) 128 = x % 128 + 128 := by
        rw [and127 x h0 h2, or128 _ (by omega) (by omega)]; omega
      have hp : x / 128 < 128 ^ (d + 1) := by
        rw [Int.pow_succ] at h1
        omega
      refine ev_pos h (ev_pos (by omega) ?_)
      rw [hm]
      refine ev_eq ?_ (ih (x / 128) (acc ++ [x % 128 + 128]) (by omega) hp (by omega) (by simp only [List.length_append, List.length_singleton]; omega))
      simp [enc, h]
    · refine ev_neg h (ev_pos (by omega) (ev_now ?_))
      simp [enc, h]
/-- what PutNum comes to -/
def put (x : Int) : List Int := if 0 ≤ x ∧ x ≤ 2147483647 then enc 4 x else []
theorem specPut (x : Int) : Ev (fun k => spec_PutNum.f k x) (put x) := by
  unfold put
  refine ev_some rfl ?_
  by_cases h : 0 ≤ x ∧ x ≤ 2147483647
  · rw [if_pos h]
    have h1 : spec_l1In.f x 0 2147483647 = some true := by simp [spec_l1In.f, h.1, h.2]
    refine ev_some h1 (ev_pos rfl ?_)
    exact specPut_l0 4 x [] h.1 (by omega) (by omega) (by simp)
  · rw [if_neg h]
    have h1 : spec_l1In.f x 0 2147483647 = some false := by
      unfold spec_l1In.f
      by_cases h0 : x ≥ 0
      · rw [if_pos h0]; simp; omega
      · rw [if_neg h0]
    exact ev_some h1 (ev_neg (by simp) (ev_now rfl))
theorem implPut (x : Int) : Ev (fun k => impl_PutNum.f k x) (put x) := by
  unfold put
  by_cases h : 0 ≤ x ∧ x ≤ 2147483647
  · rw [if_pos h]
    have h1 : impl_within.f x 0 2147483647 = some true := by simp [impl_within.f, h.1, h.2]
    refine ev_some h1 (ev_pos rfl ?_)
    exact implPut_l0 4 x [] h.1 (by omega) (by omega) (by simp)
  · rw [if_neg h]
    have h1 : impl_within.f x 0 2147483647 = some false := by
      unfold impl_within.f
      by_cases h0 : x ≥ 0
      · rw [if_pos h0]; simp; omega
      · rw [if_neg h0]
    exact ev_some h1 (ev_neg (by simp) (ev_now rfl))
theorem put_len (x : Int) : (put x).length ≤ 5 := by
  unfold put
  split
  · exact enc_len 4 x
  · simp

/-- what GetNum comes to: c bytes may come yet, the first of them at p -/
def get : Nat → List Int → Int → Nat → Int → Int × Int × Bool
  | 0, _, _, _, _ => (0, 0, false)
  | c + 1, l, acc, j, p =>
    if p < (l.length : Int) then
      if rd l p < 128 then
        if j > 0 ∧ rd l p = 0 ∨ acc + rd l p * 128 ^ j > 2147483647 then (0, 0, false) else (acc + rd l p * 128 ^ j, p + 1, true)
      else get c l (acc + (rd l p - 128) * 128 ^ j) (j + 1) (p + 1)
    else (0, 0, false)
theorem rd_range {l : List Int} (hl : ∀ x ∈ l, 0 ≤ x ∧ x ≤ 255) (p : Int) : 0 ≤ rd l p ∧ rd l p ≤ 255 := by
  unfold rd
  rw [List.getD_eq_getElem?_getD]
  by_cases h : p.toNat < l.length
  · rw [List.getElem?_eq_getElem h]; exact hl _ (List.getElem_mem h)
  · rw [List.getElem?_eq_none (by omega)]; simp
theorem p128 (j : Nat) : (128 : Int) ^ j = 2 ^ (7 * j) := by rw [Int.pow_mul]; rfl
theorem shl_eq (b : Int) (j : Nat) (h0 : 0 ≤ b) (h1 : b < 128) (hj : j < 5) : shl .i64 b (7 * (j : Int)) = b * 128 ^ j := by
  have e : 7 * (j : Int) = ((7 * j : Nat) : Int) := by omega
  have hp : (128 : Int) ^ j ≤ 128 ^ 4 := by
    have := Nat.pow_le_pow_right (n := 128) (by decide) (show j ≤ 4 by omega)
    exact_mod_cast this
  have hp0 : (0 : Int) < 128 ^ j := Int.pow_pos (by decide)
  have hb : b * 128 ^ j ≤ 127 * 128 ^ 4 := Int.le_trans (Int.mul_le_mul_of_nonneg_right (by omega) (by omega)) (Int.mul_le_mul_of_nonneg_left hp (by decide))
  have hb0 : 0 ≤ b * 128 ^ j := Int.mul_nonneg h0 (by omega)
  unfold shl
  rw [e, Int.toNat_natCast, Nat.min_eq_left (by simp [IntKind.bits]; omega), ← p128, IntKind.wrap_i64]
  omega
theorem or_eq (acc b : Int) (j : Nat) (h0 : 0 ≤ b) (h1 : b < 128) (hj : j < 5) (ha : 0 ≤ acc) (hb : acc < 128 ^ j) : Go.bits .or .i64 acc (b * 128 ^ j) = acc + b * 128 ^ j := by
  have hp : (128 : Int) ^ j ≤ 128 ^ 4 := by
    have := Nat.pow_le_pow_right (n := 128) (by decide) (show j ≤ 4 by omega)
    exact_mod_cast this
  have hp0 : (0 : Int) < 128 ^ j := Int.pow_pos (by decide)
  have hb2 : b * 128 ^ j ≤ 127 * 128 ^ 4 := Int.le_trans (Int.mul_le_mul_of_nonneg_right (by omega) (by omega)) (Int.mul_le_mul_of_nonneg_left hp (by decide))
  have hb0 : 0 ≤ b * 128 ^ j := Int.mul_nonneg h0 (by omega)
  refine or_join (7 * j) acc _ (by omega) ha (by rw [← p128]; exact hb) hb0 ?_ (by omega)
  rw [← p128]
  exact Int.mul_emod_left b _
theorem acc_lt (acc b : Int) (j : Nat) (h1 : b < 128) (hb : acc < 128 ^ j) : acc + b * 128 ^ j < 128 ^ (j + 1) := by
  have hp0 : (0 : Int) < 128 ^ j := Int.pow_pos (by decide)
  have : b * 128 ^ j ≤ 127 * 128 ^ j := Int.mul_le_mul_of_nonneg_right (by omega) (by omega)
  rw [Int.pow_succ]
  omega

theorem implGet_l0 (l : List Int) (hl : ∀ x ∈ l, 0 ≤ x ∧ x ≤ 255) (hn : l.length ≤ 1048576) (a : Int) (ha : 0 ≤ a) (h2 : a ≤ 9223372036854775807) : ∀ (c j : Nat) (acc : Int), c + j = 5 → 0 ≤ acc → acc < 128 ^ j →
    Ev (fun k => impl_GetNum.l0 k l a acc (a + j)) (get c l acc j (a + j)) := by
  intro c
  induction c with
  | zero =>
    intro j acc hc h0 h1
    obtain rfl : j = 5 := by omega
    refine ev_step (fun _ => by rw [impl_GetNum.l0]) ?_
    refine ev_ite (fun h => ?_) (fun h => ?_)
    · have e : decide (a + ((5 : Nat) : Int) < wrap64 (a + 5)) = false := by
        rw [w64 (by omega) (by omega)]
        exact decide_eq_false (by omega)
      rw [e]
      refine ev_step (fun _ => by rw [impl_GetNum.j1]) ?_
      exact ev_neg (by simp) (ev_now rfl)
    · refine ev_step (fun _ => by rw [impl_GetNum.j1]) ?_
      exact ev_neg (by simp) (ev_now rfl)
  | succ c ih =>
    intro j acc hc h0 h1
    refine ev_step (fun _ => by rw [impl_GetNum.l0]) ?_
    refine ev_ite (fun h => ?_) (fun h => ?_)
    · have e1 : decide (a + (j : Int) < wrap64 (a + 5)) = true := by
        rw [w64 (by omega) (by omega)]
        exact decide_eq_true (by omega)
      have e2 : wrap64 (a + (j : Int) - a) = (j : Int) := by rw [w64 (by omega) (by omega)]; omega
      have hb := rd_range hl (a + j)
      have e3 : wrap64 (Go.bits .and .u8 (rd l (a + j)) 127) = rd l (a + j) % 128 := by rw [and127b _ hb.1 hb.2, w64 (by omega) (by omega)]
      have e11 : wrap64 (7 * (j : Int)) = 7 * (j : Int) := w64 (by omega) (by omega)
      have e4 : shl .i64 (rd l (a + j) % 128) (7 * (j : Int)) = (rd l (a + j) % 128) * 128 ^ j := shl_eq _ j (by omega) (by omega) (by omega)
      have e5 : Go.bits .or .i64 acc ((rd l (a + j) % 128) * 128 ^ j) = acc + (rd l (a + j) % 128) * 128 ^ j := or_eq acc _ j (by omega) (by omega) (by omega) h0 h1
      have hp0 : (0 : Int) < 128 ^ j := Int.pow_pos (by decide)
      have e9 : wrap64 (a + (j : Int) + 1) = a + (j : Int) + 1 := w64 (by omega) (by omega)
      rw [e1]
      refine ev_step (fun _ => by rw [impl_GetNum.j1]) ?_
      refine ev_pos rfl (ev_pos (by omega) (ev_pos h ?_))
      simp only [e2, e3, e4, e5, e9, e11]
      clear e1 e2 e3 e4 e5 e9 e11
      refine ev_pos (by omega) ?_
      simp only [get, if_pos h]
      refine ev_ite (fun g => ?_) (fun g => ?_)
      · have e6 : rd l (a + j) % 128 = rd l (a + j) := by omega
        simp only [e6, if_pos g]
        refine ev_ite (fun q => ev_now ?_) (fun q => ?_)
        · rw [if_pos (.inr q)]
        · refine ev_ite (fun q1 => ?_) (fun q1 => ?_)
          · refine ev_ite (fun q2 => ev_now ?_) (fun q2 => ev_now ?_)
            · rw [if_pos (.inl ⟨by omega, q2⟩)]
            · rw [if_neg (by omega)]
          · refine ev_now ?_
            rw [if_neg (by omega)]
      · have e6 : rd l (a + j) % 128 = rd l (a + j) - 128 := by omega
        simp only [e6, if_neg g]
        have e8 : a + (j : Int) + 1 = a + ((j + 1 : Nat) : Int) := by omega
        rw [e8]
        exact ih (j + 1) _ (by omega) (by have := Int.mul_nonneg (show 0 ≤ rd l (a + j) - 128 by omega) (show 0 ≤ (128 : Int) ^ j by omega); omega) (acc_lt _ _ _ (by omega) h1)
    · refine ev_step (fun _ => by rw [impl_GetNum.j1]) ?_
      refine ev_neg (by simp) (ev_now ?_)
      simp only [get, if_neg h]
theorem specGet_l0 (l : List Int) (hl : ∀ x ∈ l, 0 ≤ x ∧ x ≤ 255) (hn : l.length ≤ 1048576) (a : Int) (ha : 0 ≤ a) (h2 : a ≤ 9223372036854775807) : ∀ (c j : Nat) (acc : Int), c + j = 5 → 0 ≤ acc → acc < 128 ^ j →
    Ev (fun k => spec_GetNum.l0 k l a acc (j : Int)) (get c l acc j (a + j)) := by
  intro c
  induction c with
  | zero =>
    intro j acc hc h0 h1
    obtain rfl : j = 5 := by omega
    refine ev_step (fun _ => by rw [spec_GetNum.l0]) ?_
    exact ev_neg (by omega) (ev_now rfl)
  | succ c ih =>
    intro j acc hc h0 h1
    refine ev_step (fun _ => by rw [spec_GetNum.l0]) ?_
    refine ev_pos (by omega) (ev_neg (by omega) ?_)
    have e0 : wrap64 ((l.length : Int) - (j : Int)) = (l.length : Int) - (j : Int) := w64 (by omega) (by omega)
    rw [e0]
    refine ev_step (fun _ => by rw [spec_GetNum.j1]) ?_
    refine ev_ite (fun h => ?_) (fun h => ?_)
    · have h' := of_decide_eq_true h
      refine ev_now ?_
      simp only [get, if_neg (show ¬ a + (j : Int) < (l.length : Int) by omega)]
    · have h' : ¬ a ≥ (l.length : Int) - (j : Int) := fun q => h (decide_eq_true q)
      have hlt : a + (j : Int) < (l.length : Int) := by omega
      have e2 : wrap64 (a + (j : Int)) = a + (j : Int) := w64 (by omega) (by omega)
      have hb := rd_range hl (a + j)
      have e3 : wrap64 (rd l (a + j)) = rd l (a + j) := w64 (by omega) (by omega)
      have e3b : Int.tmod (rd l (a + j)) 128 = rd l (a + j) % 128 := Int.tmod_eq_emod_of_nonneg (by omega)
      have e11 : wrap64 (7 * (j : Int)) = 7 * (j : Int) := w64 (by omega) (by omega)
      have e4 : shl .i64 (rd l (a + j) % 128) (7 * (j : Int)) = (rd l (a + j) % 128) * 128 ^ j := shl_eq _ j (by omega) (by omega) (by omega)
      have e5 : Go.bits .or .i64 acc ((rd l (a + j) % 128) * 128 ^ j) = acc + (rd l (a + j) % 128) * 128 ^ j := or_eq acc _ j (by omega) (by omega) (by omega) h0 h1
      have hp0 : (0 : Int) < 128 ^ j := Int.pow_pos (by decide)
      have e9 : wrap64 (a + (j : Int) + 1) = a + (j : Int) + 1 := w64 (by omega) (by omega)
      have e10 : wrap64 ((j : Int) + 1) = ((j + 1 : Nat) : Int) := by rw [w64 (by omega) (by omega)]; omega
      simp only [e2, e3, e3b, e4, e5, e9, e10, e11]
      clear e0 e2 e3 e3b e4 e5 e9 e10 e11
      refine ev_pos (by omega) ?_
      refine ev_pos hlt ?_
      refine ev_pos (by omega) ?_
      simp only [get, if_pos hlt]
      refine ev_ite (fun g => ?_) (fun g => ?_)
      · have e6 : rd l (a + j) % 128 = rd l (a + j) := by omega
        simp only [e6, if_pos g]
        refine ev_ite (fun q1 => ?_) (fun q1 => ?_)
        · refine ev_ite (fun q2 => ev_now ?_) (fun q2 => ev_ite (fun q => ev_now ?_) (fun q => ev_now ?_))
          · rw [if_pos (.inl ⟨by omega, q2⟩)]
          · rw [if_pos (.inr q)]
          · rw [if_neg (by omega)]
        · refine ev_ite (fun q => ev_now ?_) (fun q => ev_now ?_)
          · rw [if_pos (.inr q)]
          · rw [if_neg (by omega)]
      · have e6 : rd l (a + j) % 128 = rd l (a + j) - 128 := by omega
        simp only [e6, if_neg g]
        have e8 : a + (j : Int) + 1 = a + ((j + 1 : Nat) : Int) := by omega
        rw [e8]
        exact ih (j + 1) _ (by omega) (by have := Int.mul_nonneg (show 0 ≤ rd l (a + j) - 128 by omega) (show 0 ≤ (128 : Int) ^ j by omega); omega) (acc_lt _ _ _ (by omega) h1)
/-- what GetNum comes to -/
def getNum (l : List Int) (a : Int) : Int × Int × Bool := if a < 0 then (0, 0, false) else get 5 l 0 0 a
theorem implGet (l : List Int) (hl : ∀ x ∈ l, 0 ≤ x ∧ x ≤ 255) (hn : l.length ≤ 1048576) (a : Int) (h2 : a ≤ 9223372036854775807) : Ev (fun k => impl_GetNum.f k l a) (getNum l a) := by
  unfold getNum
  refine ev_ite (fun h => ev_now ?_) (fun h => ?_)
  · rw [if_pos h]
  · rw [if_neg h]
    have := implGet_l0 l hl hn a (by omega) h2 5 0 0 rfl (by omega) (by decide)
    simpa using this
theorem specGet (l : List Int) (hl : ∀ x ∈ l, 0 ≤ x ∧ x ≤ 255) (hn : l.length ≤ 1048576) (a : Int) (h2 : a ≤ 9223372036854775807) : Ev (fun k => spec_GetNum.f k l a) (getNum l a) := by
  unfold getNum
  show Ev (fun k => spec_GetNum.l0 k l a 0 0) _
  by_cases h : a < 0
  · rw [if_pos h]
    refine ev_step (fun _ => by rw [spec_GetNum.l0]) ?_
    refine ev_pos (by omega) (ev_pos h ?_)
    refine ev_step (fun _ => by rw [spec_GetNum.j1]) ?_
    exact ev_pos rfl (ev_now rfl)
  · rw [if_neg h]
    have := specGet_l0 l hl hn a (by omega) h2 5 0 0 rfl (by omega) (by decide)
    simpa using this

theorem get_ok (l : List Int) (hl : ∀ x ∈ l, 0 ≤ x ∧ x ≤ 255) : ∀ (c : Nat) (acc : Int) (j : Nat) (p : Int), 0 ≤ p → 0 ≤ acc → (get c l acc j p).2.2 = true →
    0 ≤ (get c l acc j p).1 ∧ (get c l acc j p).1 ≤ 2147483647 ∧ p < (get c l acc j p).2.1 ∧ (get c l acc j p).2.1 ≤ (l.length : Int) := by
  intro c
  induction c with
  | zero => intro acc j p _ _ h; simp [get] at h
  | succ c ih =>
    intro acc j p hp ha h
    have hb := rd_range hl p
    have hp0 : (0 : Int) < 128 ^ j := Int.pow_pos (by decide)
    unfold get at h ⊢
    by_cases h1 : p < (l.length : Int)
    · simp only [if_pos h1] at h ⊢
      by_cases h2 : rd l p < 128
      · simp only [if_pos h2] at h ⊢
        have hm : 0 ≤ rd l p * 128 ^ j := Int.mul_nonneg hb.1 (by omega)
        by_cases h3 : j > 0 ∧ rd l p = 0 ∨ acc + rd l p * 128 ^ j > 2147483647
        · simp [if_pos h3] at h
        · simp only [if_neg h3]
          refine ⟨by omega, by omega, by omega, by omega⟩
      · simp only [if_neg h2] at h ⊢
        have hm : 0 ≤ (rd l p - 128) * 128 ^ j := Int.mul_nonneg (by omega) (by omega)
        have := ih _ _ _ (show 0 ≤ p + 1 by omega) (show 0 ≤ acc + (rd l p - 128) * 128 ^ j by omega) h
        exact ⟨this.1, this.2.1, by omega, this.2.2.2⟩
    · simp [if_neg h1] at h
theorem getNum_ok (l : List Int) (hl : ∀ x ∈ l, 0 ≤ x ∧ x ≤ 255) (a : Int) (h : (getNum l a).2.2 = true) :
    0 ≤ (getNum l a).1 ∧ (getNum l a).1 ≤ 2147483647 ∧ 0 ≤ a ∧ a < (getNum l a).2.1 ∧ (getNum l a).2.1 ≤ (l.length : Int) := by
  unfold getNum at h ⊢
  by_cases h0 : a < 0
  · simp [if_pos h0] at h
  · simp only [if_neg h0] at h ⊢
    have := get_ok l hl 5 0 0 a (by omega) (by omega) h
    exact ⟨this.1, this.2.1, by omega, this.2.2.1, this.2.2.2⟩
/-- what GetText comes to -/
def getText (l : List Int) (a : Int) : ByteArray × Int × Bool :=
  if (getNum l a).2.2 = true then
    if (getNum l a).1 > (l.length : Int) - (getNum l a).2.1 then (⟨#[]⟩, 0, false)
    else (strOfNums ((l.take ((getNum l a).2.1 + (getNum l a).1).toNat).drop (getNum l a).2.1.toNat), (getNum l a).2.1 + (getNum l a).1, true)
  else (⟨#[]⟩, 0, false)
theorem text_tail (l : List Int) (hl : ∀ x ∈ l, 0 ≤ x ∧ x ≤ 255) (hn : l.length ≤ 1048576) (a : Int) :
    Ev (fun _ => if (getNum l a).2.2 = true then (if (getNum l a).1 > (wrap64 ((l.length : Int) - (getNum l a).2.1)) then (some ((⟨#[]⟩ : ByteArray), (0 : Int), false)) else (if 0 ≤ (getNum l a).2.1 then (if (getNum l a).2.1 ≤ (wrap64 ((getNum l a).2.1 + (getNum l a).1)) then (if (wrap64 ((getNum l a).2.1 + (getNum l a).1)) ≤ (l.length : Int) then (some (strOfNums ((l.take ((wrap64 ((getNum l a).2.1 + (getNum l a).1)) : Int).toNat).drop ((getNum l a).2.1 : Int).toNat), wrap64 ((getNum l a).2.1 + (getNum l a).1), true)) else (none)) else (none)) else (none))) else (some ((⟨#[]⟩ : ByteArray), 0, false))) (getText l a) := by
  unfold getText
  refine ev_ite (fun h => ?_) (fun h => ev_now ?_)
  · rw [if_pos h]
    have g := getNum_ok l hl a h
    have e1 : wrap64 ((l.length : Int) - (getNum l a).2.1) = (l.length : Int) - (getNum l a).2.1 := w64 (by omega) (by omega)
    have e2 : wrap64 ((getNum l a).2.1 + (getNum l a).1) = (getNum l a).2.1 + (getNum l a).1 := w64 (by omega) (by omega)
    simp only [e1, e2]
    refine ev_ite (fun q => ev_now ?_) (fun q => ?_)
    · rw [if_pos q]
    · rw [if_neg q]
      exact ev_pos (by omega) (ev_pos (by omega) (ev_pos (by omega) (ev_now rfl)))
  · rw [if_neg h]
theorem implText (l : List Int) (hl : ∀ x ∈ l, 0 ≤ x ∧ x ≤ 255) (hn : l.length ≤ 1048576) (a : Int) (h2 : a ≤ 9223372036854775807) : Ev (fun k => impl_GetText.f k l a) (getText l a) :=
  ev_bind (implGet l hl hn a h2) (text_tail l hl hn a)
theorem specText (l : List Int) (hl : ∀ x ∈ l, 0 ≤ x ∧ x ≤ 255) (hn : l.length ≤ 1048576) (a : Int) (h2 : a ≤ 9223372036854775807) : Ev (fun k => spec_GetText.f k l a) (getText l a) :=
  ev_bind (specGet l hl hn a h2) (text_tail l hl hn a)

/-! the laws' own words on bytes -/
theorem toByteS_l0 (l : List Int) (hn : l.length ≤ 1048576) : ∀ (d i : Nat) (acc : List Int), i + d = l.length → acc.length = l.length → Ev (fun k => laws_toByteS.l0 k l acc (i : Int)) (l.drop i |> (acc.take i ++ ·)) := by
  intro d
  induction d with
  | zero =>
    intro i acc h1 h2
    refine ev_step (fun _ => rfl) (ev_neg (by omega) (ev_now ?_))
    simp [List.take_of_length_le (show acc.length ≤ i by omega), List.drop_eq_nil_of_le (show l.length ≤ i by omega)]
  | succ d ih =>
    intro i acc h1 h2
    refine ev_step (fun _ => rfl) (ev_pos (by omega) (ev_pos (by omega) (ev_pos (by omega) ?_)))
    have e : wrap64 ((i : Int) + 1) = ((i + 1 : Nat) : Int) := by rw [w64 (by omega) (by omega)]; omega
    rw [e, Int.toNat_natCast, rd_eq l i (by omega)]
    refine ev_eq ?_ (ih (i + 1) (acc.set i l[i]) (by omega) (by simp; omega))
    show (acc.set i l[i]).take (i + 1) ++ l.drop (i + 1) = acc.take i ++ l.drop i
    rw [List.take_succ_eq_append_getElem (by simp; omega), List.take_set_of_le (Nat.le_refl i), List.getElem_set_self, List.drop_eq_getElem_cons (show i < l.length by omega)]
    simp
theorem toByteS (l : List Int) (hn : l.length ≤ 1048576) : Ev (fun k => laws_toByteS.f k l) l := by
  refine ev_pos (by omega) (ev_pos (by omega) ?_)
  have := toByteS_l0 l hn l.length 0 (List.replicate ((l.length : Int)).toNat 0) (by omega) (by simp)
  simpa using this
theorem eqByteS_l0 (l : List Int) (hn : l.length ≤ 2097152) : ∀ (d i : Nat), i + d = l.length → Ev (fun k => laws_eqByteS.l0 k l l (i : Int)) true := by
  intro d
  induction d with
  | zero => intro i h; exact ev_step (fun _ => rfl) (ev_neg (by omega) (ev_now rfl))
  | succ d ih =>
    intro i h
    refine ev_step (fun _ => rfl) (ev_pos (by omega) (ev_pos (by omega) (ev_pos (by omega) (ev_pos rfl ?_))))
    have e : wrap64 ((i : Int) + 1) = ((i + 1 : Nat) : Int) := by rw [w64 (by omega) (by omega)]; omega
    rw [e]
    exact ih (i + 1) (by omega)
theorem eqByteS (l : List Int) (hn : l.length ≤ 2097152) : Ev (fun k => laws_eqByteS.f k l l) true := ev_pos rfl (eqByteS_l0 l hn l.length 0 (by omega))
/-- what markByteS leaves: the numbers from q on, as bytes -/
def marked (q n : Nat) : List Int := (List.range n).map fun i => ((q + i : Nat) : Int) % 256
theorem marked_len (q n : Nat) : (marked q n).length = n := by simp [marked]
theorem markByteS_l0 (n : Nat) (hn : n ≤ 2097152) : ∀ (d i : Nat) (acc : List Int), i + d = n → acc.length = n → acc.take i = marked 1 i →
    Ev (fun k => laws_markByteS.l0 k acc ((1 + i : Nat) : Int) (i : Int)) (((1 + n : Nat) : Int), marked 1 n) := by
  intro d
  induction d with
  | zero =>
    intro i acc h1 h2 h3
    obtain rfl : i = n := by omega
    refine ev_step (fun _ => rfl) (ev_neg (by omega) (ev_now ?_))
    rw [← h3, List.take_of_length_le (by omega)]
  | succ d ih =>
    intro i acc h1 h2 h3
    refine ev_step (fun _ => rfl) (ev_pos (by omega) (ev_pos (by omega) ?_))
    have e : wrap64 ((i : Int) + 1) = ((i + 1 : Nat) : Int) := by rw [w64 (by omega) (by omega)]; omega
    have e2 : wrap64 (((1 + i : Nat) : Int) + 1) = ((1 + (i + 1) : Nat) : Int) := by rw [w64 (by omega) (by omega)]; omega
    rw [e, e2, Int.toNat_natCast]
    refine ih (i + 1) _ (by omega) (by simp; omega) ?_
    rw [List.take_succ_eq_append_getElem (by simp; omega), List.take_set_of_le (Nat.le_refl i), List.getElem_set_self, h3]
    simp [marked, List.range_succ]
theorem markByteS (l : List Int) (hn : l.length ≤ 2097152) : Ev (fun k => laws_markByteS.f k l 1) (((1 + l.length : Nat) : Int), marked 1 l.length) := markByteS_l0 l.length hn l.length 0 l (by omega) rfl (by simp [marked])
theorem heldByteS_l0 (n : Nat) (hn : n ≤ 2097152) : ∀ (d i : Nat), i + d = n → Ev (fun k => laws_heldByteS.l0 k (marked 1 n) ((1 + i : Nat) : Int) (i : Int)) ((1 + n : Nat) : Int) := by
  intro d
  induction d with
  | zero =>
    intro i h1
    obtain rfl : i = n := by omega
    exact ev_step (fun _ => rfl) (ev_neg (by rw [marked_len]; omega) (ev_now rfl))
  | succ d ih =>
    intro i h1
    refine ev_step (fun _ => rfl) (ev_pos (by rw [marked_len]; omega) (ev_pos (by omega) (ev_pos ?_ ?_)))
    · rw [rd_eq _ i (by rw [marked_len]; omega)]
      simp [marked]
    · have e : wrap64 ((i : Int) + 1) = ((i + 1 : Nat) : Int) := by rw [w64 (by omega) (by omega)]; omega
      have e2 : wrap64 (((1 + i : Nat) : Int) + 1) = ((1 + (i + 1) : Nat) : Int) := by rw [w64 (by omega) (by omega)]; omega
      rw [e, e2]
      exact ih (i + 1) (by omega)
theorem heldByteS (n : Nat) (hn : n ≤ 2097152) : Ev (fun k => laws_heldByteS.f k (marked 1 n) 1) ((1 + n : Nat) : Int) := heldByteS_l0 n hn n 0 (by omega)
end Go.Proofs.Ythkepjgolaichaa.L
