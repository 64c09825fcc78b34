/- The law FnExactDigits holds, for all arguments: its row, and behind it the plain side of what the program and the reference compute. Conditions: those that each theorem states; the row has none. -/
import Derived.Test.YtiknkolclcdajaaDoorRows
import Derived.Test.YtiknkolclcdajaaDoorCards
import Derived.Test.YtiknkolclcdajaaDoorTie
import Derived.Shelf.LaysM
import Derived.Shelf.Strconv.Itoa3
import Derived.Test.YtiknkolclcdajaaDoorProg
import Derived.Lib.AppendIntMem
import Derived.Below
import Derived.WalkKit
import Derived.BigCall
import Derived.Lib.ItoaNum
import Derived.ProofKit
import Derived.LaidMore
import Derived.OpenShut
import Derived.Stop.Joined
import Derived.Carry
import Derived.SevenTiedAt
import Derived.Test.YtiknkolclcdajaaDoorZXDigits0
import Derived.Test.YtiknkolclcdajaaDoorZXDigitsa
/-
  DERIVED: THE SHELF's CONTRACTS AT THIS DUMP, IN PLAIN WORDS (tools/lay-plain.mjs out of 'YtiknkolclcdajaaDoorS0.lean', which tools/lay-shelf.mjs wrote): THE SAME DECLARATIONS UNDER THE SAME NAMES: 'import', 'namespace', 'open', 'def', 'theorem' AND NOTHING ELSE: no command of the shelf's: FOR A HAND-IN. Each laying: the table of numbers ('.._ren') and one theorem, a field a fact of the dump's own or the kernel's comparison; each contract: ONE APPLICATION.
-/
namespace Go.Proofs
open Go.Shelf
def Tryd.laysM171_ren : Go.Shelf.Ren := ⟨fun | 171 => 11 | 243 => 16 | 246 => 20 | 283 => 23 | 284 => 24 | 285 => 25 | 286 => 26 | 129 => 30 | 317 => 29 | 318 => 31 | 319 => 32 | 320 => 33 | 337 => 34 | 338 => 35 | n => n, fun | 3 => 3 | 9 => 9 | 2 => 2 | 4 => 4 | 171 => 47 | 0 => 0 | 53 => 48 | 37 => 31 | 5 => 5 | 173 => 51 | 212 => 58 | 51 => 59 | 20 => 20 | 213 => 60 | 46 => 61 | 232 => 64 | 233 => 65 | n => n, fun | 17 => 0 | 18 => 2 | 19 => 3 | n => n⟩
theorem Tryd.laysM171 : Go.Proofs.LaysM.n171 Tryd.prog Tryd.laysM171_ren := {
  mixed := by kernel_rfl
  f129 := Tryd.func30.trans (congrArg some (by kernel_rfl))
  f171 := Tryd.func11.trans (congrArg some (by kernel_rfl))
  f243 := Tryd.func16.trans (congrArg some (by kernel_rfl))
  f246 := Tryd.func20.trans (congrArg some (by kernel_rfl))
  f283 := Tryd.func23.trans (congrArg some (by kernel_rfl))
  f284 := Tryd.func24.trans (congrArg some (by kernel_rfl))
  f285 := Tryd.func25.trans (congrArg some (by kernel_rfl))
  f286 := Tryd.func26.trans (congrArg some (by kernel_rfl))
  f317 := Tryd.func29.trans (congrArg some (by kernel_rfl))
  f318 := Tryd.func31.trans (congrArg some (by kernel_rfl))
  f319 := Tryd.func32.trans (congrArg some (by kernel_rfl))
  f320 := Tryd.func33.trans (congrArg some (by kernel_rfl))
  f337 := Tryd.func34.trans (congrArg some (by kernel_rfl))
  f338 := Tryd.func35.trans (congrArg some (by kernel_rfl))
  t0 := Tryd.underlying0
  a0 := Tryd.isAgg0
  z0 := Tryd.sizeOf0
  v0 := Tryd.zeroValue0
  t2 := Tryd.underlying2
  a2 := Tryd.isAgg2
  z2 := Tryd.sizeOf2
  v2 := Tryd.zeroValue2
  t3 := Tryd.underlying3
  a3 := Tryd.isAgg3
  z3 := Tryd.sizeOf3
  v3 := Tryd.zeroValue3
  t4 := Tryd.underlying4
  a4 := Tryd.isAgg4
  z4 := Tryd.sizeOf4
  v4 := Tryd.zeroValue4
  t5 := Tryd.underlying5
  a5 := Tryd.isAgg5
  z5 := Tryd.sizeOf5
  v5 := Tryd.zeroValue5
  t9 := Tryd.underlying9
  a9 := Tryd.isAgg9
  z9 := Tryd.sizeOf9
  v9 := Tryd.zeroValue9
  t20 := Tryd.underlying20
  a20 := Tryd.isAgg20
  z20 := Tryd.sizeOf20
  v20 := Tryd.zeroValue20
  t37 := Tryd.underlying31
  a37 := Tryd.isAgg31
  z37 := Tryd.sizeOf31
  v37 := Tryd.zeroValue31
  t46 := Tryd.underlying61
  a46 := Tryd.isAgg61
  z46 := Tryd.sizeOf61
  v46 := Tryd.zeroValue61
  t51 := Tryd.underlying59
  a51 := Tryd.isAgg59
  z51 := Tryd.sizeOf59
  v51 := Tryd.zeroValue59
  t53 := Tryd.underlying48
  a53 := Tryd.isAgg48
  z53 := Tryd.sizeOf48
  v53 := Tryd.zeroValue48
  t171 := Tryd.underlying47
  a171 := Tryd.isAgg47
  z171 := Tryd.sizeOf47
  v171 := Tryd.zeroValue47
  t173 := Tryd.underlying51
  a173 := Tryd.isAgg51
  z173 := Tryd.sizeOf51
  v173 := Tryd.zeroValue51
  t212 := Tryd.underlying58
  a212 := Tryd.isAgg58
  z212 := Tryd.sizeOf58
  v212 := Tryd.zeroValue58
  t213 := Tryd.underlying60
  a213 := Tryd.isAgg60
  z213 := Tryd.sizeOf60
  t232 := Tryd.underlying64
  a232 := Tryd.isAgg64
  z232 := Tryd.sizeOf64
  v232 := Tryd.zeroValue64
  t233 := Tryd.underlying65
  a233 := Tryd.isAgg65
  z233 := Tryd.sizeOf65
  v233 := Tryd.zeroValue65
  g17 := by kernel_rfl
  g18 := by kernel_rfl
  g19 := by kernel_rfl
  i0 := by kernel_rfl
  i2 := by kernel_rfl
  i3 := by kernel_rfl
  i4 := by kernel_rfl
  i5 := by kernel_rfl
  i9 := by kernel_rfl
  i20 := by kernel_rfl
  i37 := by kernel_rfl
  i46 := by kernel_rfl
  i51 := by kernel_rfl
  i53 := by kernel_rfl
  i171 := by kernel_rfl
  i173 := by kernel_rfl
  i212 := by kernel_rfl
  i232 := by kernel_rfl
  i233 := by kernel_rfl
  m17 := by kernel_rfl
  m18 := by kernel_rfl
  m19 := by kernel_rfl }
open Go.RowKit Go.Sort Go.Lib in
/-- strconv.Itoa: "Itoa is equivalent to FormatInt(int64(i), 10).": i's DECIMAL NUMERAL ('Lib.itoa': a '-' where i is negative, then the digits), FOR EVERY int. The world behind the call: the world before it, new blocks behind the heap (the library's 'var a [24]byte'), draws. (LAID: no walk: one application.) -/
theorem Tryd.strconv_Itoa (n : Int) (h0 : -9223372036854775808 ≤ n) (h1 : n ≤ 9223372036854775807) (w : World) (htab : Lib.TabIs Tryd.prog w "internal/strconv.uint64pow10" .u64 Lib.pow10Tab) :
    Calls Tryd.prog 11 #[.int .i64 n] w fun e w' => e = .returned (.string ⟨(Lib.itoa n).toArray⟩) ∧ ∃ k os, w' = grow (w.drewN k) os := Any.strconv_Itoa Tryd.laysM171 n h0 h1 w htab
end Go.Proofs

/- The law FnExactDigits is walked: where the reference's digits are the decimal numeral, it answers true. Conditions: a whole number of 64 bits; the table of powers of ten that the library reads. -/
namespace Go.Proofs.YtiknkolclcdajaaDoor.Q
open Go.RowKit Go.Shelf
theorem below_grown_ (B : Nat) (w : World) (q : Nat) (os : Array Obj) (hB : B ≤ w.heap.size) : Below B w (Sort.grow (w.drewN q) os) :=
  ⟨rfl, rfl, rfl, by simp [Sort.grow], fun i hi => by
    show ((w.drewN q).heap ++ os)[i]? = _
    rw [Array.getElem?_append_left (by show i < w.heap.size; omega)]
    rfl⟩
theorem impl_Digits.calls (n : Int) (h0 : -9223372036854775808 ≤ n) (h1 : n ≤ 9223372036854775807) (w : World) (htab : Lib.TabIs Tryd.prog w "internal/strconv.uint64pow10" .u64 Lib.pow10Tab) :
    Calls Tryd.prog 6 #[.int .i64 n] w fun e w' => e = .returned (.string ⟨(Lib.itoa n).toArray⟩) ∧ Below w.heap.size w w' := by
  go_enter Tryd.func6, Tryd.ntmps6
  go_wp2_with (go_at_call 11; refine (Tryd.strconv_Itoa n h0 h1 _ htab).mono ?_; rintro e w' ⟨rfl, k, os, rfl⟩)
  go_ret
  exact ⟨rfl, below_grown_ _ _ _ _ (Nat.le_refl _)⟩
theorem laws_FnExactDigits.calls (k : Nat) (n : Int) (h0 : -9223372036854775808 ≤ n) (h1 : n ≤ 9223372036854775807) (h : spec_Digits.f k n = some ⟨(Lib.itoa n).toArray⟩) (w : World) (htab : Lib.TabIs Tryd.prog w "internal/strconv.uint64pow10" .u64 Lib.pow10Tab) :
    Calls Tryd.prog 3 #[.int .i64 n] w fun e w' => e = .returned (.bool true) ∧ Below w.heap.size w w' := by
  have hT := Lib.tabBelow_of_tabIs htab
  go_enter Tryd.func3, Tryd.ntmps3
  go_wp2_with (first
    | (go_at_call 5; refine (spec_Digits.calls k n _ _ h).mono ?_; rintro e w1 ⟨rfl, hb1⟩)
    | (go_at_call 6; refine (impl_Digits.calls n h0 h1 _ (hT _ hb1)).mono ?_; rintro e w2 ⟨rfl, hb2⟩))
  go_ret
  exact ⟨rfl, hb1.trans (hb2.mono hb1.size)⟩
end Go.Proofs.YtiknkolclcdajaaDoor.Q

/- The reference's digits of a whole number are its decimal numeral. Condition: a whole number of 64 bits. -/
namespace Go.Proofs.YtiknkolclcdajaaDoor.Pure
open Go.RowKit Go.Proofs.YtiknkolclcdajaaDoorW.PrintWords Go.Proofs.YtiknkolclcdajaaDoorW.PrintLast Go.Proofs.YtiknkolclcdajaaDoorW.PrintMore Go.Proofs.YtiknkolclcdajaaDoor.Q
theorem w64 {x : Int} (h0 : -9223372036854775808 ≤ x) (h1 : x ≤ 9223372036854775807) : wrap64 x = x := by
  unfold wrap64
  omega
/-- a list of bytes as a text -/
def txt (l : List UInt8) : ByteArray := ⟨l.toArray⟩
theorem txt_app (a b : List UInt8) : txt a ++ txt b = txt (a ++ b) := by
  apply ByteArray.ext
  simp [txt]
theorem txt_num (u : Nat) (h : u < 10) (x : Int) (hx : x = 48 + (u : Int)) : strOfNums [x] = txt [UInt8.ofNat (48 + u)] := by
  subst hx
  apply ByteArray.ext
  have : (48 + (u : Int)).toNat = 48 + u := by omega
  simp [strOfNums, txt, this]
/-- the digits that are left, ahead of what is written -/
def pre (n : Int) (acc : List UInt8) : List UInt8 := if n = 0 then acc else Lib.decDigits n.natAbs ++ acc
def fin_ (b : Bool) (s : List UInt8) : List UInt8 := if b = true then 45 :: s else s
theorem pre_step (n : Int) (h : n ≠ 0) (acc : List UInt8) : pre (Int.tdiv n 10) (UInt8.ofNat (48 + n.natAbs % 10) :: acc) = pre n acc := by
  have hd : (Int.tdiv n 10).natAbs = n.natAbs / 10 := by rw [Int.natAbs_tdiv]; rfl
  unfold pre
  rw [if_neg h]
  by_cases q : n.natAbs < 10
  · rw [if_pos (by omega), Lib.decDigits, dif_pos q, Nat.mod_eq_of_lt q]
    rfl
  · rw [if_neg (by omega), hd]
    conv => rhs; rw [Lib.decDigits, dif_neg q]
    simp
theorem tmod_abs (n : Int) : (Int.tmod n 10 < 0 → -(Int.tmod n 10) = ((n.natAbs % 10 : Nat) : Int)) ∧ (¬ Int.tmod n 10 < 0 → Int.tmod n 10 = ((n.natAbs % 10 : Nat) : Int)) := by
  have h : (Int.tmod n 10).natAbs = n.natAbs % 10 := by rw [Int.natAbs_tmod]; rfl
  constructor <;> intro q <;> omega
theorem digits_l0 : ∀ (d : Nat) (n : Int) (b : Bool) (acc : List UInt8), n.natAbs < 10 ^ d → -9223372036854775808 ≤ n → n ≤ 9223372036854775807 → acc.length + d ≤ 1000 → spec_Digits.l0 (d + 1) n b (txt acc) = some (txt (fin_ b (pre n acc))) := by
  intro d
  induction d with
  | zero =>
    intro n b acc h h0 h1 hs
    have hz : n = 0 := by simp at h; exact h
    rw [spec_Digits.l0, if_pos hz]
    unfold pre fin_
    rw [if_pos hz]
    cases b with
    | true =>
      rw [if_pos rfl, if_pos rfl, if_pos (by show 1 + acc.toArray.size ≤ _; simp; omega)]
      exact congrArg some (txt_app [45] acc)
    | false => rw [if_neg (by simp), if_neg (by simp)]
  | succ d ih =>
    intro n b acc h h0 h1 hs
    by_cases hz : n = 0
    · rw [spec_Digits.l0, if_pos hz]
      unfold pre fin_
      rw [if_pos hz]
      cases b with
      | true =>
        rw [if_pos rfl, if_pos rfl, if_pos (by show 1 + acc.toArray.size ≤ _; simp; omega)]
        exact congrArg some (txt_app [45] acc)
      | false => rw [if_neg (by simp), if_neg (by simp)]
    · have hm := tmod_abs n
      have hu : n.natAbs % 10 < 10 := Nat.mod_lt _ (by omega)
      have hd : (Int.tdiv n 10).natAbs = n.natAbs / 10 := by rw [Int.natAbs_tdiv]; rfl
      have b0 : -9223372036854775808 ≤ Int.tdiv n 10 := by omega
      have b1 : Int.tdiv n 10 ≤ 9223372036854775807 := by omega
      have next : spec_Digits.l0 (d + 1) (wrap64 (Int.tdiv n 10)) b (txt [UInt8.ofNat (48 + n.natAbs % 10)] ++ txt acc) = some (txt (fin_ b (pre n acc))) := by
        rw [w64 b0 b1, txt_app, ← pre_step n hz]
        exact ih _ b _ (by rw [hd]; rw [Nat.pow_succ] at h; omega) b0 b1 (by simp; omega)
      have size : ∀ y : UInt8, (txt [y]).size + (txt acc).size ≤ 9223372036854775807 := fun y => by show 1 + acc.toArray.size ≤ _; simp; omega
      rw [spec_Digits.l0, if_neg hz]
      by_cases q : Int.tmod n 10 < 0
      · have e : strOfNums [(wrap64 (48 + (wrap64 (-(Int.tmod n 10))))) % 256] = txt [UInt8.ofNat (48 + n.natAbs % 10)] := by
          apply txt_num _ hu
          have a1 : wrap64 (-(Int.tmod n 10)) = ((n.natAbs % 10 : Nat) : Int) := by rw [hm.1 q]; exact w64 (by omega) (by omega)
          rw [a1, w64 (by omega) (by omega)]
          omega
        rw [if_pos q, Option.bind_some, e, if_pos (size _)]
        exact next
      · have e : strOfNums [(wrap64 (48 + (Int.tmod n 10))) % 256] = txt [UInt8.ofNat (48 + n.natAbs % 10)] := by
          apply txt_num _ hu
          rw [hm.2 q, w64 (by omega) (by omega)]
          omega
        rw [if_neg q, Option.bind_some, e, if_pos (size _)]
        exact next
theorem digits (n : Int) (h0 : -9223372036854775808 ≤ n) (h1 : n ≤ 9223372036854775807) : spec_Digits.f 21 n = some ⟨(Lib.itoa n).toArray⟩ := by
  unfold spec_Digits.f
  by_cases hz : n = 0
  · rw [if_pos hz, hz, show Lib.itoa 0 = [48] by rw [Lib.itoa, if_neg (by omega), Int.toNat_zero, Lib.decDigits, dif_pos (by omega)]; rfl]
  · rw [if_neg hz]
    have h := digits_l0 20 n (decide (n < 0)) [] (by omega) h0 h1 (by simp)
    refine Eq.trans h (congrArg some ?_)
    unfold fin_ pre Lib.itoa txt
    rw [if_neg hz, List.append_nil]
    by_cases q : n < 0
    · rw [if_pos (by simp [q]), if_pos q]
    · rw [if_neg (by simp [q]), if_neg q]
      rw [show n.natAbs = n.toNat by omega]
end Go.Proofs.YtiknkolclcdajaaDoor.Pure

/- The law FnExactDigits: its tied card holds, for all arguments. The row's condition: three tables of the library's lie as the program's text lays them. -/
namespace Go.Proofs.YtiknkolclcdajaaDoor.digits
open Go.ChangeShapes Go.WideShapes Go.ChangeAt Go.WideElems Go.RowKit
theorem own : ownKnob Tryd.prog.godebug = none := by kernel_rfl
theorem laidOut : laidOutB Tryd.prog = true := by kernel_rfl
theorem gTab : Tryd.prog.globalNamed "internal/strconv.uint64pow10" = some 0 := by kernel_rfl
theorem tTab : (Tryd.prog.globals[0]?).map (·.type) = some 58 := by kernel_rfl
theorem c48 : Tryd.prog.cellsOf 48 = 1 := by kernel_rfl
theorem c58 : Tryd.prog.cellsOf 58 = 20 := by kernel_rfl
theorem door_met (os : Os) (args : Array Value) : laidMet Tryd.prog Rows.fnExactDigitsRow.laid ((World.doorLaid Tryd.prog 4000 os).forCall (fun _ _ => 0) ⟨#[], args, []⟩).memory :=
  laidMet_of_run' 8 (by kernel_rfl) (by kernel_rfl)
theorem of_laid {W : World} (h : laidMet Tryd.prog Rows.fnExactDigitsRow.laid W) : Lib.TabIs Tryd.prog W "internal/strconv.uint64pow10" .u64 Lib.pow10Tab := by
  obtain ⟨ps, ⟨g0, t0, cs0, f0, p0, q0, hg0, ht0, hv0, hd0, ⟨g1, t1, cs1, f1, p1, q1, hg1, ht1, hv1, hd1, ⟨g2, t2, cs2, f2, p2, q2, hg2, ht2, hv2, hd2, _, _⟩, _⟩, _⟩, _, _⟩ := h
  obtain rfl := Option.some.inj (gTab.symm.trans hg2)
  obtain rfl := Option.some.inj (tTab.symm.trans ht2)
  unfold Lib.TabIs
  rw [hv2, ← Lib.cells_of_tab Tryd.underlying58 Tryd.underlying48 c48 c58 hd2]
set_option maxRecDepth 100000 in
theorem lifted (os : Os) (started : os.Started) (H : Type) (enc : TypeId × Value → H) :
    ReturnsInHanded {} Tryd.checked os 3 .any (fun w args => (Rows.fnExactDigitsSpec.pre enc Tryd.prog Tryd.f3 [] false w args ∧ laidMetH Tryd.prog Rows.fnExactDigitsRow.laid w) ∧ sizedMet enc Tryd.prog Tryd.f3 (OpenSpec.ofChange Rows.fnExactDigitsSpec) false w args)
      (Rows.fnExactDigitsSpec.post enc Tryd.prog Tryd.f3 false true false false) := by
  refine returnsInHanded_of_change_and (C := Tryd.checked) (X := fun w _ => laidMetH Tryd.prog Rows.fnExactDigitsRow.laid w) (fun _ _ _ hh h => h.of_heap hh) own started (by kernel_rfl) Tryd.func3
    (ChangeSpec.witness_shaped (enc := enc) (C := Tryd.checked) (os := os) (X := fun w _ => laidMetH Tryd.prog Rows.fnExactDigitsRow.laid w) false (World.doorLaid Tryd.prog 4000 os) #[.int .i64 0] 8 rfl (World.shaped_of_RefB (by kernel_rfl) (by kernel_rfl)) (by kernel_rfl) (by kernel_rfl) (by kernel_rfl) (by show laidMetH _ _ _; rw [MakeChecks.laidMetH_plain _ _ _ (by kernel_rfl)]; exact door_met os _)) ?_
  intro W base args ds gs before hval0 hW _ _ hL _
  have hval : ∀ (j : Nat) t v, Tryd.f3.params[j]? = some t → args[j]? = some v → Value.okWide Tryd.prog W .any base t v := hval0
  have hW' := hW
  obtain ⟨p, q, hA0, hV, rfl, hfz, hnd⟩ := hW
  have hA : DataW.TrodAll enc Tryd.prog W 0 (fun _ => true) true Tryd.f3.params.toList args.toList ds p := hA0
  rw [Tryd.params3] at hA hval
  obtain ⟨v0, d0, rfl, rfl, h0⟩ := trodAll_one hA
  obtain ⟨rfl, rfl⟩ := trodVars_none hV
  obtain ⟨n, rfl, rfl, rfl, hw⟩ := open_int Tryd.underlying3 (hval 0 3 v0 rfl rfl) h0
  rw [MakeChecks.laidMetH_plain _ _ _ (by kernel_rfl)] at hL
  have hT := of_laid hL
  clear hA0 hval0
  simp only [List.append_nil] at hW'
  have hb : -9223372036854775808 ≤ n ∧ n ≤ 9223372036854775807 := by have h_ := hw; simp only [Lit.wf, Bool.and_eq_true, decide_eq_true_eq] at h_; exact ⟨h_.1, h_.2⟩
  refine (Q.laws_FnExactDigits.calls 21 n hb.1 hb.2 (Pure.digits n hb.1 hb.2) W hT).mono fun e W' he => ?_
  obtain ⟨rfl, bel⟩ := he
  exact ⟨_, rfl, _, _, _, [], _, [], hW', trodAll_mk1 (shut_bool Tryd.underlying4 _), trodAll_mk1 (shut_int Tryd.underlying3 hw), rfl, bel.frame _, fun h => by cases h⟩
theorem row : Rows.FnExactDigitsSaid :=
  OpenClaim.holds_of_wide 3 Tryd.f3 rfl rfl rfl rfl rfl rfl rfl ⟨rfl, rfl, rfl, rfl, rfl⟩ rfl rfl rfl rfl rfl (by kernel_rfl) Tryd.func3 (by kernel_rfl)
    (of_decide_eq_true (by kernel_rfl)) (by unfold Func.isWrapper; first | (rw [if_pos (by decide +kernel)]; kernel_rfl) | (rw [if_neg (by decide +kernel)]; exact ⟨rfl, rfl⟩))
    (fun os started H enc _ => lifted os started H enc)
end Go.Proofs.YtiknkolclcdajaaDoor.digits
namespace Go.Proofs.YtiknkolclcdajaaDoor
theorem fnExactDigits_holds : Rows.FnExactDigitsCardSaid :=
  Claim7.holds_tied_plain_at .later [] [.data, .data, .data] true (true, "2a3e397b836a7a632d62b9b8f5b7798c966128117286624d9b0e34d5c44a7414") false
    digits.row (fun _ h => by cases h) (by kernel_rfl) (fun _ h => by cases h) fnExactDigits_row_tie rfl ⟨rfl, rfl⟩ (by kernel_rfl) rfl
    (fun f fn hf hfn => by
      obtain rfl : f = 3 := Option.some.inj ((show Tryd.prog.funcNamed "loop.example/g00393/laws.FnExactDigits" = some 3 by kernel_rfl).symm.trans hf) |>.symm
      obtain rfl : fn = Tryd.f3 := (Option.some.inj (Tryd.func3.symm.trans hfn)).symm
      exact ⟨by kernel_rfl, fun j t ht => by
        rw [Tryd.params3] at ht
        have hm : t ∈ [3] := by simpa using Array.mem_of_getElem? ht
        have hall : ([3].all fun u => !Tryd.prog.wantsStandIn u) = true := by kernel_rfl
        exact (show Tryd.prog.wantsStandIn t = false by simpa using List.all_eq_true.1 hall t hm)⟩)
    (by kernel_rfl)
#print axioms fnExactDigits_holds
end Go.Proofs.YtiknkolclcdajaaDoor

