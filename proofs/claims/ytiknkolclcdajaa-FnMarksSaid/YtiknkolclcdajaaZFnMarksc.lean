/- Made by a program of ours out of the print of the loaded functions: for each of some functions a plain function, and the walk that shows that a call comes to what it says. No condition but those of each theorem. -/
import Derived.Test.YtiknkolclcdajaaZFnMarks0
import Derived.Test.YtiknkolclcdajaaZFnMarksa
import Derived.Test.YtiknkolclcdajaaZFnMarksb
namespace Go.Proofs.Ytiknkolclcdajaa.Q
open Go.RowKit Go.Proofs.YtiknkolclcdajaaW.PrintWords Go.Proofs.YtiknkolclcdajaaW.PrintLast Go.Proofs.YtiknkolclcdajaaW.PrintMore
attribute [local go_sem] max2_int min2_int max_two min_two max_three min_three max_four min_four   -- for this text's walks alone
set_option linter.unusedVariables false
set_option linter.unusedSimpArgs false

/-! ### spec_GroupJoin: function 171 -/
mutual
def spec_GroupJoin.j0 : Nat → Int → Int → Int → List Int → List Int → List Int → Int → List Int → List Int → List Int → Option (Int × List Int × List Int × List Int)
 | 0, _, _, _, _, _, _, _, _, _, _ => none
 | k + 1, x1, x2, x1458000, x1458001, x1458002, x1458003, x1470000, x1470001, x1470002, x1470003 => (spec_l5At.f k x1458000 x1458001 x1458002 x1458003 x1).bind fun t1471 => (if t1471 ≥ 0 then (if t1471 < (x1470002.length : Int) then (if 0 ≤ t1471 then (some (x1470000, x1470001, (x1470002.set (t1471 : Int).toNat x2), x1470003)) else (none)) else (some (x1470000, x1470001, x1470002, x1470003))) else (spec_GroupJoin.j1 k x1 x2 x1458000 x1458001 x1458002 x1458003 x1470000 x1470001 x1470002 x1470003))
def spec_GroupJoin.j1 : Nat → Int → Int → Int → List Int → List Int → List Int → Int → List Int → List Int → List Int → Option (Int × List Int × List Int × List Int)
 | 0, _, _, _, _, _, _, _, _, _, _ => none
 | k + 1, x1, x2, x1458000, x1458001, x1458002, x1458003, x1470000, x1470001, x1470002, x1470003 => spec_GroupJoin.l0 k x1 x2 0 x1458000 x1458001 x1458002 x1458003 x1470000 x1470001 x1470002 x1470003
def spec_GroupJoin.j4 : Nat → Int → Int → Int → Int → List Int → List Int → List Int → Int → List Int → List Int → List Int → Option (Int × List Int × List Int × List Int)
 | 0, _, _, _, _, _, _, _, _, _, _, _ => none
 | k + 1, x1, x2, x8, x1458000, x1458001, x1458002, x1458003, x1470000, x1470001, x1470002, x1470003 => (some (([] : List Int) : List Int)).bind fun y1474 => (if 0 ≤ x8 then (if x8 ≤ (x1458001.length : Int) then (if y1474.length + (x1458001.take (x8 : Int).toNat).length < 17592186044416 then ((some (y1474 ++ (x1458001.take (x8 : Int).toNat) : List Int)).bind fun y1478 => (if y1478.length < 17592186044416 then ((some (y1478 ++ [x1] : List Int)).bind fun y1481 => (if y1481.length + (x1458001.drop (x8 : Int).toNat).length < 17592186044416 then ((some (([] : List Int) : List Int)).bind fun y1488 => (if x8 ≤ (x1458002.length : Int) then (if y1488.length + (x1458002.take (x8 : Int).toNat).length < 17592186044416 then ((some (y1488 ++ (x1458002.take (x8 : Int).toNat) : List Int)).bind fun y1492 => (if y1492.length < 17592186044416 then ((some (y1492 ++ [x2] : List Int)).bind fun y1495 => (if y1495.length + (x1458002.drop (x8 : Int).toNat).length < 17592186044416 then ((spec_l5Up.f x1458000).bind fun t1502 => (some (t1502, (y1481 ++ (x1458001.drop (x8 : Int).toNat)), (y1495 ++ (x1458002.drop (x8 : Int).toNat)), x1470003))) else (none))) else (none))) else (none)) else (none))) else (none))) else (none))) else (none)) else (none)) else (none))
def spec_GroupJoin.l0 : Nat → Int → Int → Int → Int → List Int → List Int → List Int → Int → List Int → List Int → List Int → Option (Int × List Int × List Int × List Int)
 | 0, _, _, _, _, _, _, _, _, _, _, _ => none
 | k + 1, x1, x2, x8, x1458000, x1458001, x1458002, x1458003, x1470000, x1470001, x1470002, x1470003 => if x8 < (x1458001.length : Int) then (if x8 < (x1458002.length : Int) then (if 0 ≤ x8 then (spec_GroupJoin.j3 k x1 x2 x8 (decide ((rd x1458001 x8) < x1)) x1458000 x1458001 x1458002 x1458003 x1470000 x1470001 x1470002 x1470003) else (none)) else (spec_GroupJoin.j3 k x1 x2 x8 false x1458000 x1458001 x1458002 x1458003 x1470000 x1470001 x1470002 x1470003)) else (spec_GroupJoin.j3 k x1 x2 x8 false x1458000 x1458001 x1458002 x1458003 x1470000 x1470001 x1470002 x1470003)
def spec_GroupJoin.j3 : Nat → Int → Int → Int → Bool → Int → List Int → List Int → List Int → Int → List Int → List Int → List Int → Option (Int × List Int × List Int × List Int)
 | 0, _, _, _, _, _, _, _, _, _, _, _, _ => none
 | k + 1, x1, x2, x8, x53, x1458000, x1458001, x1458002, x1458003, x1470000, x1470001, x1470002, x1470003 => if x53 = true then (spec_GroupJoin.l0 k x1 x2 (wrap64 (x8 + 1)) x1458000 x1458001 x1458002 x1458003 x1470000 x1470001 x1470002 x1470003) else (spec_GroupJoin.j4 k x1 x2 x8 x1458000 x1458001 x1458002 x1458003 x1470000 x1470001 x1470002 x1470003)
end
def spec_GroupJoin.f (k : Nat) (a0_0 : Int) (l0_1 : List Int) (l0_2 : List Int) (l0_3 : List Int) (a1 : Int) (a2 : Int) : Option (Int × List Int × List Int × List Int) := (spec_l5Copy.f a0_0 l0_1 l0_2 l0_3).bind fun bt1459 => ((spec_l1In.f a1 0 3).bind fun t1470 => (if t1470 = true then (spec_GroupJoin.j0 k a1 a2 a0_0 l0_1 l0_2 l0_3 bt1459.1 bt1459.2.1 bt1459.2.2.1 bt1459.2.2.2) else (some (bt1459.1, bt1459.2.1, bt1459.2.2.1, bt1459.2.2.2))))
theorem spec_GroupJoin.mono_l : ∀ k, (∀ y0 y1 y2 y3 y4 y5 y6 y7 y8 y9, LeO (spec_GroupJoin.j0 k y0 y1 y2 y3 y4 y5 y6 y7 y8 y9) (spec_GroupJoin.j0 (k + 1) y0 y1 y2 y3 y4 y5 y6 y7 y8 y9)) ∧ (∀ y0 y1 y2 y3 y4 y5 y6 y7 y8 y9, LeO (spec_GroupJoin.j1 k y0 y1 y2 y3 y4 y5 y6 y7 y8 y9) (spec_GroupJoin.j1 (k + 1) y0 y1 y2 y3 y4 y5 y6 y7 y8 y9)) ∧ (∀ y0 y1 y2 y3 y4 y5 y6 y7 y8 y9 y10, LeO (spec_GroupJoin.j4 k y0 y1 y2 y3 y4 y5 y6 y7 y8 y9 y10) (spec_GroupJoin.j4 (k + 1) y0 y1 y2 y3 y4 y5 y6 y7 y8 y9 y10)) ∧ (∀ y0 y1 y2 y3 y4 y5 y6 y7 y8 y9 y10, LeO (spec_GroupJoin.l0 k y0 y1 y2 y3 y4 y5 y6 y7 y8 y9 y10) (spec_GroupJoin.l0 (k + 1) y0 y1 y2 y3 y4 y5 y6 y7 y8 y9 y10)) ∧ (∀ y0 y1 y2 y3 y4 y5 y6 y7 y8 y9 y10 y11, LeO (spec_GroupJoin.j3 k y0 y1 y2 y3 y4 y5 y6 y7 y8 y9 y10 y11) (spec_GroupJoin.j3 (k + 1) y0 y1 y2 y3 y4 y5 y6 y7 y8 y9 y10 y11))
 | 0 => ⟨fun _ _ _ _ _ _ _ _ _ _ r h => by simp [spec_GroupJoin.j0] at h, fun _ _ _ _ _ _ _ _ _ _ r h => by simp [spec_GroupJoin.j1] at h, fun _ _ _ _ _ _ _ _ _ _ _ r h => by simp [spec_GroupJoin.j4] at h, fun _ _ _ _ _ _ _ _ _ _ _ r h => by simp [spec_GroupJoin.l0] at h, fun _ _ _ _ _ _ _ _ _ _ _ _ r h => by simp [spec_GroupJoin.j3] at h⟩
 | k + 1 => by
  obtain ⟨ih0, ih1, ih2, ih3, ih4⟩ := spec_GroupJoin.mono_l k
  refine ⟨?_, ?_, ?_, ?_, ?_⟩
  ·
   intro y0 y1 y2 y3 y4 y5 y6 y7 y8 y9
   unfold spec_GroupJoin.j0
   repeat' first
   | (with_reducible exact ih0 _ _ _ _ _ _ _ _ _ _)
   | (with_reducible exact ih1 _ _ _ _ _ _ _ _ _ _)
   | (with_reducible exact ih2 _ _ _ _ _ _ _ _ _ _ _)
   | (with_reducible exact ih3 _ _ _ _ _ _ _ _ _ _ _)
   | (with_reducible exact ih4 _ _ _ _ _ _ _ _ _ _ _ _)
   | (with_reducible exact spec_l5At.mono _ _ _ _ _ _)
   | (with_reducible exact LeO.refl _)
   | (with_reducible exact LeO.none _)
   | (with_reducible refine LeO.ite ?_ ?_)
   | (with_reducible refine LeO.bind ?_ (fun _ => ?_))
   | exact ih0 _ _ _ _ _ _ _ _ _ _
   | exact ih1 _ _ _ _ _ _ _ _ _ _
   | exact ih2 _ _ _ _ _ _ _ _ _ _ _
   | exact ih3 _ _ _ _ _ _ _ _ _ _ _
   | exact ih4 _ _ _ _ _ _ _ _ _ _ _ _
   | exact spec_l5At.mono _ _ _ _ _ _
   | exact LeO.none _
   | refine LeO.ite ?_ ?_
   | refine LeO.bind ?_ (fun _ => ?_)
  ·
   intro y0 y1 y2 y3 y4 y5 y6 y7 y8 y9
   unfold spec_GroupJoin.j1
   repeat' first
   | (with_reducible exact ih0 _ _ _ _ _ _ _ _ _ _)
   | (with_reducible exact ih1 _ _ _ _ _ _ _ _ _ _)
   | (with_reducible exact ih2 _ _ _ _ _ _ _ _ _ _ _)
   | (with_reducible exact ih3 _ _ _ _ _ _ _ _ _ _ _)
   | (with_reducible exact ih4 _ _ _ _ _ _ _ _ _ _ _ _)
   | (with_reducible exact spec_l5At.mono _ _ _ _ _ _)
   | (with_reducible exact LeO.refl _)
   | (with_reducible exact LeO.none _)
   | (with_reducible refine LeO.ite ?_ ?_)
   | (with_reducible refine LeO.bind ?_ (fun _ => ?_))
   | exact ih0 _ _ _ _ _ _ _ _ _ _
   | exact ih1 _ _ _ _ _ _ _ _ _ _
   | exact ih2 _ _ _ _ _ _ _ _ _ _ _
   | exact ih3 _ _ _ _ _ _ _ _ _ _ _
   | exact ih4 _ _ _ _ _ _ _ _ _ _ _ _
   | exact spec_l5At.mono _ _ _ _ _ _
   | exact LeO.none _
   | refine LeO.ite ?_ ?_
   | refine LeO.bind ?_ (fun _ => ?_)
  ·
   intro y0 y1 y2 y3 y4 y5 y6 y7 y8 y9 y10
   unfold spec_GroupJoin.j4
   repeat' first
   | (with_reducible exact ih0 _ _ _ _ _ _ _ _ _ _)
   | (with_reducible exact ih1 _ _ _ _ _ _ _ _ _ _)
   | (with_reducible exact ih2 _ _ _ _ _ _ _ _ _ _ _)
   | (with_reducible exact ih3 _ _ _ _ _ _ _ _ _ _ _)
   | (with_reducible exact ih4 _ _ _ _ _ _ _ _ _ _ _ _)
   | (with_reducible exact spec_l5At.mono _ _ _ _ _ _)
   | (with_reducible exact LeO.refl _)
   | (with_reducible exact LeO.none _)
   | (with_reducible refine LeO.ite ?_ ?_)
   | (with_reducible refine LeO.bind ?_ (fun _ => ?_))
   | exact ih0 _ _ _ _ _ _ _ _ _ _
   | exact ih1 _ _ _ _ _ _ _ _ _ _
   | exact ih2 _ _ _ _ _ _ _ _ _ _ _
   | exact ih3 _ _ _ _ _ _ _ _ _ _ _
   | exact ih4 _ _ _ _ _ _ _ _ _ _ _ _
   | exact spec_l5At.mono _ _ _ _ _ _
   | exact LeO.none _
   | refine LeO.ite ?_ ?_
   | refine LeO.bind ?_ (fun _ => ?_)
  ·
   intro y0 y1 y2 y3 y4 y5 y6 y7 y8 y9 y10
   unfold spec_GroupJoin.l0
   repeat' first
   | (with_reducible exact ih0 _ _ _ _ _ _ _ _ _ _)
   | (with_reducible exact ih1 _ _ _ _ _ _ _ _ _ _)
   | (with_reducible exact ih2 _ _ _ _ _ _ _ _ _ _ _)
   | (with_reducible exact ih3 _ _ _ _ _ _ _ _ _ _ _)
   | (with_reducible exact ih4 _ _ _ _ _ _ _ _ _ _ _ _)
   | (with_reducible exact spec_l5At.mono _ _ _ _ _ _)
   | (with_reducible exact LeO.refl _)
   | (with_reducible exact LeO.none _)
   | (with_reducible refine LeO.ite ?_ ?_)
   | (with_reducible refine LeO.bind ?_ (fun _ => ?_))
   | exact ih0 _ _ _ _ _ _ _ _ _ _
   | exact ih1 _ _ _ _ _ _ _ _ _ _
   | exact ih2 _ _ _ _ _ _ _ _ _ _ _
   | exact ih3 _ _ _ _ _ _ _ _ _ _ _
   | exact ih4 _ _ _ _ _ _ _ _ _ _ _ _
   | exact spec_l5At.mono _ _ _ _ _ _
   | exact LeO.none _
   | refine LeO.ite ?_ ?_
   | refine LeO.bind ?_ (fun _ => ?_)
  ·
   intro y0 y1 y2 y3 y4 y5 y6 y7 y8 y9 y10 y11
   unfold spec_GroupJoin.j3
   repeat' first
   | (with_reducible exact ih0 _ _ _ _ _ _ _ _ _ _)
   | (with_reducible exact ih1 _ _ _ _ _ _ _ _ _ _)
   | (with_reducible exact ih2 _ _ _ _ _ _ _ _ _ _ _)
   | (with_reducible exact ih3 _ _ _ _ _ _ _ _ _ _ _)
   | (with_reducible exact ih4 _ _ _ _ _ _ _ _ _ _ _ _)
   | (with_reducible exact spec_l5At.mono _ _ _ _ _ _)
   | (with_reducible exact LeO.refl _)
   | (with_reducible exact LeO.none _)
   | (with_reducible refine LeO.ite ?_ ?_)
   | (with_reducible refine LeO.bind ?_ (fun _ => ?_))
   | exact ih0 _ _ _ _ _ _ _ _ _ _
   | exact ih1 _ _ _ _ _ _ _ _ _ _
   | exact ih2 _ _ _ _ _ _ _ _ _ _ _
   | exact ih3 _ _ _ _ _ _ _ _ _ _ _
   | exact ih4 _ _ _ _ _ _ _ _ _ _ _ _
   | exact spec_l5At.mono _ _ _ _ _ _
   | exact LeO.none _
   | refine LeO.ite ?_ ?_
   | refine LeO.bind ?_ (fun _ => ?_)
theorem spec_GroupJoin.mono : ∀ a0 a1 a2 a3 a4 a5 k, LeO (spec_GroupJoin.f k a0 a1 a2 a3 a4 a5) (spec_GroupJoin.f (k + 1) a0 a1 a2 a3 a4 a5) := by
 intro a0 a1 a2 a3 a4 a5 k
 obtain ⟨ih0, ih1, ih2, ih3, ih4⟩ := spec_GroupJoin.mono_l k
 unfold spec_GroupJoin.f
 repeat' first
  | (with_reducible exact ih0 _ _ _ _ _ _ _ _ _ _)
  | (with_reducible exact ih1 _ _ _ _ _ _ _ _ _ _)
  | (with_reducible exact ih2 _ _ _ _ _ _ _ _ _ _ _)
  | (with_reducible exact ih3 _ _ _ _ _ _ _ _ _ _ _)
  | (with_reducible exact ih4 _ _ _ _ _ _ _ _ _ _ _ _)
  | (with_reducible exact spec_l5At.mono _ _ _ _ _ _)
  | (with_reducible exact LeO.refl _)
  | (with_reducible exact LeO.none _)
  | (with_reducible refine LeO.ite ?_ ?_)
  | (with_reducible refine LeO.bind ?_ (fun _ => ?_))
  | exact ih0 _ _ _ _ _ _ _ _ _ _
  | exact ih1 _ _ _ _ _ _ _ _ _ _
  | exact ih2 _ _ _ _ _ _ _ _ _ _ _
  | exact ih3 _ _ _ _ _ _ _ _ _ _ _
  | exact ih4 _ _ _ _ _ _ _ _ _ _ _ _
  | exact spec_l5At.mono _ _ _ _ _ _
  | exact LeO.none _
  | refine LeO.ite ?_ ?_
  | refine LeO.bind ?_ (fun _ => ?_)
set_option maxHeartbeats 8000000 in
set_option maxRecDepth 100000 in
theorem spec_GroupJoin.calls (k : Nat) (a0_0 : Int) (A0_1 : Option Addr) (c0_1 : Nat) (l0_1 : List Int) (A0_2 : Option Addr) (c0_2 : Nat) (l0_2 : List Int) (A0_3 : Option Addr) (c0_3 : Nat) (l0_3 : List Int) (a1 : Int) (a2 : Int) (r1 : Int) (r2 : List Int) (r3 : List Int) (r4 : List Int) (w : World) (hr0_1 : Kd.C (Kd.int .i64) w A0_1 l0_1.length l0_1) (hc0_1 : l0_1.length ≤ c0_1) (hr0_2 : Kd.C (Kd.int .i64) w A0_2 l0_2.length l0_2) (hc0_2 : l0_2.length ≤ c0_2) (hr0_3 : Kd.C (Kd.int .i64) w A0_3 l0_3.length l0_3) (hc0_3 : l0_3.length ≤ c0_3) (h : spec_GroupJoin.f k a0_0 l0_1 l0_2 l0_3 a1 a2 = some (r1, r2, r3, r4)) :
 Calls Try.prog 171 #[.agg #[.int .i64 a0_0, .slice A0_1 l0_1.length c0_1, .slice A0_2 l0_2.length c0_2, .slice A0_3 l0_3.length c0_3], .int .i64 a1, .int .i64 a2] w fun e w' => ∃ v1_ v2_ v3_ : Value, e = .returned (.agg #[.int .i64 r1, v1_, v2_, v3_]) ∧ Kd.R (Kd.int .i64) 3 w' w.heap.size (fun k_ => some k_ ≠ (v2_ : Value).ownBlock ∧ some k_ ≠ (v3_ : Value).ownBlock) v1_ r2 ∧ Kd.R (Kd.int .i64) 3 w' w.heap.size (fun k_ => some k_ ≠ (v1_ : Value).ownBlock ∧ some k_ ≠ (v3_ : Value).ownBlock) v2_ r3 ∧ Kd.R (Kd.int .i64) 3 w' w.heap.size (fun k_ => some k_ ≠ (v1_ : Value).ownBlock ∧ some k_ ≠ (v2_ : Value).ownBlock) v3_ r4 ∧ Below w.heap.size w w' := by
 have hu26 := Try.underlying26
 have HR0_1 := Aside0.mk hr0_1
 have HC0_1 := Aside0.mk hc0_1
 clear hr0_1 hc0_1
 have HR0_2 := Aside0.mk hr0_2
 have HC0_2 := Aside0.mk hc0_2
 clear hr0_2 hc0_2
 have HR0_3 := Aside0.mk hr0_3
 have HC0_3 := Aside0.mk hc0_3
 clear hr0_3 hc0_3
 have HB := Aside0.mk (Below.refl w.heap.size w)
 have H : ((spec_l5Copy.f a0_0 l0_1 l0_2 l0_3).bind fun bt1459 => ((spec_l1In.f a1 0 3).bind fun t1470 => (if t1470 = true then (spec_GroupJoin.j0 k a1 a2 a0_0 l0_1 l0_2 l0_3 bt1459.1 bt1459.2.1 bt1459.2.2.1 bt1459.2.2.2) else (some (bt1459.1, bt1459.2.1, bt1459.2.2.1, bt1459.2.2.2))))) = some (r1, r2, r3, r4) := h
 clear h
 replace H := Option.bind_eq_some_iff.mp H
 obtain ⟨⟨t1459, t1460, t1463, t1466⟩, A40, H⟩ := H
 replace H : ((spec_l1In.f a1 0 3).bind fun t1470 => (if t1470 = true then (spec_GroupJoin.j0 k a1 a2 a0_0 l0_1 l0_2 l0_3 t1459 t1460 t1463 t1466) else (some (t1459, t1460, t1463, t1466)))) = some (r1, r2, r3, r4) := H
 have A4 := Aside0.mk A40
 clear A40
 replace H := Option.bind_eq_some_iff.mp H
 obtain ⟨t1470, A50, H⟩ := H
 replace H : (if t1470 = true then (spec_GroupJoin.j0 k a1 a2 a0_0 l0_1 l0_2 l0_3 t1459 t1460 t1463 t1466) else (some (t1459, t1460, t1463, t1466))) = some (r1, r2, r3, r4) := H
 have A5 := Aside0.mk A50
 clear A50
 have HC6 := Aside0.mk H
 clear H
 go_enter Try.func171, Try.ntmps171
 go_upto_if 15 with (first | ((with_reducible refine gate_dst (N := 3) rfl ?_); (try (refine gate_guard (by rfl) ?_; dsimp only)); refine box_event ?hg (N := 3) ?hd (cs := #[.int .i64 a0_0, .slice A0_1 l0_1.length c0_1, .slice A0_2 l0_2.length c0_2, .slice A0_3 l0_3.length c0_3]) (t := 26) ?hr ?_; (case hd => rfl); (case hg => rfl); (case hr => first | (go_simp; done) | (go_simp; rfl)); intro gb1457 hg w7 hbox hb; have n0_ := Aside0.mk (below_step (hb_ HB.out) hb); have n1_ := Aside0.mk (hbox); have n2_ := Aside0.mk ((by rw [hg]; exact (below_size (hb_ HB.out)) : w.heap.size ≤ gb1457)); have n3_ := Aside0.mk ((by rw [hg]; exact (below_size (hb_ HB.out)) : w.heap.size ≤ gb1457)); clear HB; have HB := n0_; have BK1457 := n1_; have GW1457 := n2_; have GE1457 := n3_; clear n0_ n1_ n2_ n3_; clear hb hbox hg) | ((with_reducible refine gate_dst (N := 6) rfl ?_); (try (refine gate_guard (by rfl) ?_; dsimp only)); refine box_event ?hg (N := 6) ?hd (cs := #[.int .i64 0, .slice none 0 0, .slice none 0 0, .slice none 0 0]) (t := 26) ?hr ?_; (case hd => rfl); (case hg => rfl); (case hr => first | (go_simp; done) | (go_simp; rfl)); intro gb1458 hg w8 hbox hb; have n0_ := Aside0.mk (bb_ BK1457.out hb); have n1_ := Aside0.mk (below_step (hb_ HB.out) hb); have n2_ := Aside0.mk (hbox); have n3_ := Aside0.mk ((by rw [hg]; exact (below_size (hb_ HB.out)) : w.heap.size ≤ gb1458)); have n4_ := Aside0.mk ((by rw [hg]; exact (below_size (hb_ HB.out)) : w.heap.size ≤ gb1458)); have n5_ := Aside0.mk ((nl_ BK1457.out hg : gb1457 ≠ gb1458)); have n6_ := Aside0.mk ((ng_ BK1457.out hg : gb1458 ≠ gb1457)); clear BK1457; clear HB; have BK1457 := n0_; have HB := n1_; have BK1458 := n2_; have GW1458 := n3_; have GE1458 := n4_; have NB1457_1458 := n5_; have NB1458_1457 := n6_; clear n0_ n1_ n2_ n3_ n4_ n5_ n6_; clear hb hbox hg; have hnb9 := NB1457_1458.out; have hnc9 := NB1458_1457.out; have hcz10_0 : w8.cell? ⟨gb1457, 0, none⟩ = some (.int .i64 a0_0) := (blk_cell BK1457.out 0).trans rfl; have hcz10_1 : w8.cell? ⟨gb1457, 1, none⟩ = some (.slice A0_1 l0_1.length c0_1) := (blk_cell BK1457.out 1).trans rfl; have hcz10_2 : w8.cell? ⟨gb1457, 2, none⟩ = some (.slice A0_2 l0_2.length c0_2) := (blk_cell BK1457.out 2).trans rfl; have hcz10_3 : w8.cell? ⟨gb1457, 3, none⟩ = some (.slice A0_3 l0_3.length c0_3) := (blk_cell BK1457.out 3).trans rfl; have hfz10_0 := blk_frozen BK1457.out 0; have hfz10_1 := blk_frozen BK1457.out 1; have hfz10_2 := blk_frozen BK1457.out 2; have hfz10_3 := blk_frozen BK1457.out 3) | ((with_reducible refine gate_callee (f := 83) rfl ?_); refine goesL_ (some 12) rfl rfl Try.func83 (by kernel_rfl) rfl #[.agg #[.int .i64 a0_0, .slice A0_1 l0_1.length c0_1, .slice A0_2 l0_2.length c0_2, .slice A0_3 l0_3.length c0_3]] rfl sm_ ?_; (with_reducible refine (spec_l5Copy.calls a0_0 _ _ l0_1 _ _ l0_2 _ _ l0_3 t1459 t1460 t1463 t1466 _ ?side1 ?side2 ?side3 ?side4 ?side5 ?side6 A4.out).mono ?_); (case side1 => repeat (first | exact (Kd.C_below HR0_1.out HB.out) | (with_reducible refine Kd.C_alloc ?_ _) | (with_reducible refine Kd.C_drewN ?_ _) | (with_reducible refine Kd.C_drew ?_))); (case side2 => exact HC0_1.out); (case side3 => repeat (first | exact (Kd.C_below HR0_2.out HB.out) | (with_reducible refine Kd.C_alloc ?_ _) | (with_reducible refine Kd.C_drewN ?_ _) | (with_reducible refine Kd.C_drew ?_))); (case side4 => exact HC0_2.out); (case side5 => repeat (first | exact (Kd.C_below HR0_3.out HB.out) | (with_reducible refine Kd.C_alloc ?_ _) | (with_reducible refine Kd.C_drewN ?_ _) | (with_reducible refine Kd.C_drew ?_))); (case side6 => exact HC0_3.out); rintro e w11 ⟨v1461, v1464, v1467, rfl, ho0, ho1, ho2, hb⟩; refine ⟨_, rfl, ?_⟩; have n0_ := Aside0.mk (Kd.R_lower ho0 (below_size (hb_ HB.out))); have n1_ := Aside0.mk (Kd.R_lower ho1 (below_size (hb_ HB.out))); have n2_ := Aside0.mk (Kd.R_lower ho2 (below_size (hb_ HB.out))); have n3_ := Aside0.mk (bb_ BK1457.out hb); have n4_ := Aside0.mk (bb_ BK1458.out hb); have n5_ := Aside0.mk (below_step (hb_ HB.out) hb); clear BK1457; clear BK1458; clear HB; have HO1462 := n0_; have HO1465 := n1_; have HO1468 := n2_; have BK1457 := n3_; have BK1458 := n4_; have HB := n5_; clear n0_ n1_ n2_ n3_ n4_ n5_; (try clear hb); (try clear hb2); (try clear hk); (try clear hi); (try clear ho0); (try clear ho1); (try clear ho2)) | ((with_reducible refine gate_dst (N := 7) rfl ?_); (try (refine gate_guard (by rfl) ?_; dsimp only)); refine box_event ?hg (N := 7) ?hd (cs := #[.int .i64 0, .slice none 0 0, .slice none 0 0, .slice none 0 0]) (t := 26) ?hr ?_; (case hd => rfl); (case hg => rfl); (case hr => first | (go_simp; done) | (go_simp; rfl)); intro gb1469 hg w12 hbox hb; have n0_ := Aside0.mk (Kd.R_below (rq_ HO1462.out) hb); have n1_ := Aside0.mk (Kd.R_below (rq_ HO1465.out) hb); have n2_ := Aside0.mk (Kd.R_below (rq_ HO1468.out) hb); have n3_ := Aside0.mk (bb_ BK1457.out hb); have n4_ := Aside0.mk (bb_ BK1458.out hb); have n5_ := Aside0.mk (below_step (hb_ HB.out) hb); have n6_ := Aside0.mk (hbox); have n7_ := Aside0.mk ((by rw [hg]; exact (below_size (hb_ HB.out)) : w.heap.size ≤ gb1469)); have n8_ := Aside0.mk ((by rw [hg]; exact (below_size (hb_ HB.out)) : w.heap.size ≤ gb1469)); have n9_ := Aside0.mk ((nl_ BK1457.out hg : gb1457 ≠ gb1469)); have n10_ := Aside0.mk ((ng_ BK1457.out hg : gb1469 ≠ gb1457)); have n11_ := Aside0.mk ((nl_ BK1458.out hg : gb1458 ≠ gb1469)); have n12_ := Aside0.mk ((ng_ BK1458.out hg : gb1469 ≠ gb1458)); clear HO1462; clear HO1465; clear HO1468; clear BK1457; clear BK1458; clear HB; have HO1462 := n0_; have HO1465 := n1_; have HO1468 := n2_; have BK1457 := n3_; have BK1458 := n4_; have HB := n5_; have BK1469 := n6_; have GW1469 := n7_; have GE1469 := n8_; have NB1457_1469 := n9_; have NB1469_1457 := n10_; have NB1458_1469 := n11_; have NB1469_1458 := n12_; clear n0_ n1_ n2_ n3_ n4_ n5_ n6_ n7_ n8_ n9_ n10_ n11_ n12_; clear hb hbox hg; have hnb13 := NB1469_1457.out; have hnc13 := NB1457_1469.out; have hnb14 := NB1469_1458.out; have hnc14 := NB1458_1469.out; have hcz15_0 : w12.cell? ⟨gb1469, 0, none⟩ = some (.int .i64 0) := (blk_cell BK1469.out 0).trans rfl; have hcz15_1 : w12.cell? ⟨gb1469, 1, none⟩ = some (.slice none 0 0) := (blk_cell BK1469.out 1).trans rfl; have hcz15_2 : w12.cell? ⟨gb1469, 2, none⟩ = some (.slice none 0 0) := (blk_cell BK1469.out 2).trans rfl; have hcz15_3 : w12.cell? ⟨gb1469, 3, none⟩ = some (.slice none 0 0) := (blk_cell BK1469.out 3).trans rfl; have hfz15_0 := blk_frozen BK1469.out 0; have hfz15_1 := blk_frozen BK1469.out 1; have hfz15_2 := blk_frozen BK1469.out 2; have hfz15_3 := blk_frozen BK1469.out 3; obtain ⟨Ao16, co16, eo16⟩ := Kd.R_slice HO1462.out; subst eo16; obtain ⟨Ao17, co17, eo17⟩ := Kd.R_slice HO1465.out; subst eo17; obtain ⟨Ao18, co18, eo18⟩ := Kd.R_slice HO1468.out; subst eo18) | ((with_reducible refine gate_callee (f := 84) rfl ?_); refine goesL_ (some 14) rfl rfl Try.func84 (by kernel_rfl) rfl #[.int .i64 a1, .int .i64 0, .int .i64 3] rfl sm_ ?_; (with_reducible refine (spec_l1In.calls a1 0 3 t1470 _ A5.out).mono ?_); rintro e w' ⟨rfl, ⟨nd, rfl⟩⟩; refine ⟨_, rfl, ?_⟩))
 (try simp only [Act.put, List.setIfInBounds_toArray, List.set_cons_zero, List.set_cons_succ])
 go_cut [] (fun wc => ∃ (kq : Nat) (x1459000_5 : Int), Aside0 (spec_GroupJoin.j0 kq a1 a2 a0_0 l0_1 l0_2 l0_3 t1459 t1460 t1463 t1466 = some (r1, r2, r3, r4)) ∧ Aside0 (kq ≤ k) ∧ Aside0 (Kd.R (Kd.int .i64) 3 wc w.heap.size (fun k_ => some k_ ≠ ((.slice Ao17 t1463.length co17) : Value).ownBlock ∧ some k_ ≠ ((.slice Ao18 t1466.length co18) : Value).ownBlock) (.slice Ao16 t1460.length co16) t1460) ∧ Aside0 (Kd.R (Kd.int .i64) 3 wc w.heap.size (fun k_ => some k_ ≠ ((.slice Ao16 t1460.length co16) : Value).ownBlock ∧ some k_ ≠ ((.slice Ao18 t1466.length co18) : Value).ownBlock) (.slice Ao17 t1463.length co17) t1463) ∧ Aside0 (Kd.R (Kd.int .i64) 3 wc w.heap.size (fun k_ => some k_ ≠ ((.slice Ao16 t1460.length co16) : Value).ownBlock ∧ some k_ ≠ ((.slice Ao17 t1463.length co17) : Value).ownBlock) (.slice Ao18 t1466.length co18) t1466) ∧ Aside0 (wc.heap[gb1457]? = some (.cells #[.int .i64 a0_0, (.slice A0_1 l0_1.length c0_1), (.slice A0_2 l0_2.length c0_2), (.slice A0_3 l0_3.length c0_3)] 26 (0, 0))) ∧ Aside0 (wc.heap[gb1458]? = some (.cells #[.int .i64 x1459000_5, (.slice none 0 0), (.slice none 0 0), (.slice none 0 0)] 26 (0, 0))) ∧ Aside0 (wc.heap[gb1469]? = some (.cells #[.int .i64 t1459, (.slice Ao16 t1460.length co16), (.slice Ao17 t1463.length co17), (.slice Ao18 t1466.length co18)] 26 (0, 0))) ∧ Aside0 (Below w.heap.size w wc))
 case first =>
  have H := HC6.out
  clear HC6
  by_cases c19 : t1470 = true
  ·
   subst c19
   have H1 : (spec_GroupJoin.j0 k a1 a2 a0_0 l0_1 l0_2 l0_3 t1459 t1460 t1463 t1466) = some (r1, r2, r3, r4) := by rw [if_pos rfl] at H; exact H
   clear H
   have H := H1
   clear H1
   have H' := Aside0.mk H
   clear H
   go_wp2
   go_meet
   case rel => exact ⟨_, (0), H', ⟨by first | omega | exact Nat.le_refl _⟩, ⟨by (with_reducible repeat (first | apply Kd.R_alloc | apply Kd.R_drewN | apply Kd.R_drew)); exact Kd.R_mono (Kd.R_far (p := ⟨gb1469, 3, none⟩) (Kd.R_far (p := ⟨gb1469, 2, none⟩) (Kd.R_far (p := ⟨gb1469, 1, none⟩) (Kd.R_far (p := ⟨gb1469, 0, none⟩) (Kd.R_types HO1462.out BK1469.out (by decide)) (fun _ hk => hk.2) (.int .i64 t1459)) (fun _ hk => hk.2) (.slice Ao16 t1460.length co16)) (fun _ hk => hk.2) (.slice Ao17 t1463.length co17)) (fun _ hk => hk.2) (.slice Ao18 t1466.length co18)) (fun _ hk => ⟨hk.1.1, hk.1.2⟩)⟩, ⟨by (with_reducible repeat (first | apply Kd.R_alloc | apply Kd.R_drewN | apply Kd.R_drew)); exact Kd.R_mono (Kd.R_far (p := ⟨gb1469, 3, none⟩) (Kd.R_far (p := ⟨gb1469, 2, none⟩) (Kd.R_far (p := ⟨gb1469, 1, none⟩) (Kd.R_far (p := ⟨gb1469, 0, none⟩) (Kd.R_types HO1465.out BK1469.out (by decide)) (fun _ hk => hk.2) (.int .i64 t1459)) (fun _ hk => hk.2) (.slice Ao16 t1460.length co16)) (fun _ hk => hk.2) (.slice Ao17 t1463.length co17)) (fun _ hk => hk.2) (.slice Ao18 t1466.length co18)) (fun _ hk => ⟨hk.1.1, hk.1.2⟩)⟩, ⟨by (with_reducible repeat (first | apply Kd.R_alloc | apply Kd.R_drewN | apply Kd.R_drew)); exact Kd.R_mono (Kd.R_far (p := ⟨gb1469, 3, none⟩) (Kd.R_far (p := ⟨gb1469, 2, none⟩) (Kd.R_far (p := ⟨gb1469, 1, none⟩) (Kd.R_far (p := ⟨gb1469, 0, none⟩) (Kd.R_types HO1468.out BK1469.out (by decide)) (fun _ hk => hk.2) (.int .i64 t1459)) (fun _ hk => hk.2) (.slice Ao16 t1460.length co16)) (fun _ hk => hk.2) (.slice Ao17 t1463.length co17)) (fun _ hk => hk.2) (.slice Ao18 t1466.length co18)) (fun _ hk => ⟨hk.1.1, hk.1.2⟩)⟩, ⟨by (with_reducible repeat (first | refine blk_drewN ?_ _ | refine blk_drew ?_ | refine blk_alloc ?_ _)); refine blk_far ?_ NB1457_1469.out _; (with_reducible repeat (first | refine blk_drewN ?_ _ | refine blk_drew ?_ | refine blk_alloc ?_ _)); refine blk_far ?_ NB1457_1469.out _; (with_reducible repeat (first | refine blk_drewN ?_ _ | refine blk_drew ?_ | refine blk_alloc ?_ _)); refine blk_far ?_ NB1457_1469.out _; (with_reducible repeat (first | refine blk_drewN ?_ _ | refine blk_drew ?_ | refine blk_alloc ?_ _)); refine blk_far ?_ NB1457_1469.out _; (with_reducible repeat (first | refine blk_drewN ?_ _ | refine blk_drew ?_ | refine blk_alloc ?_ _)); exact BK1457.out⟩, ⟨by (with_reducible repeat (first | refine blk_drewN ?_ _ | refine blk_drew ?_ | refine blk_alloc ?_ _)); refine blk_far ?_ NB1458_1469.out _; (with_reducible repeat (first | refine blk_drewN ?_ _ | refine blk_drew ?_ | refine blk_alloc ?_ _)); refine blk_far ?_ NB1458_1469.out _; (with_reducible repeat (first | refine blk_drewN ?_ _ | refine blk_drew ?_ | refine blk_alloc ?_ _)); refine blk_far ?_ NB1458_1469.out _; (with_reducible repeat (first | refine blk_drewN ?_ _ | refine blk_drew ?_ | refine blk_alloc ?_ _)); refine blk_far ?_ NB1458_1469.out _; (with_reducible repeat (first | refine blk_drewN ?_ _ | refine blk_drew ?_ | refine blk_alloc ?_ _)); exact BK1458.out⟩, ⟨by (with_reducible repeat (first | refine blk_drewN ?_ _ | refine blk_drew ?_ | refine blk_alloc ?_ _)); refine blk_put (cs := #[.int .i64 t1459, .slice Ao16 t1460.length co16, .slice Ao17 t1463.length co17, .slice none 0 0]) ?_ 3 _ rfl; (with_reducible repeat (first | refine blk_drewN ?_ _ | refine blk_drew ?_ | refine blk_alloc ?_ _)); refine blk_put (cs := #[.int .i64 t1459, .slice Ao16 t1460.length co16, .slice none 0 0, .slice none 0 0]) ?_ 2 _ rfl; (with_reducible repeat (first | refine blk_drewN ?_ _ | refine blk_drew ?_ | refine blk_alloc ?_ _)); refine blk_put (cs := #[.int .i64 t1459, .slice none 0 0, .slice none 0 0, .slice none 0 0]) ?_ 1 _ rfl; (with_reducible repeat (first | refine blk_drewN ?_ _ | refine blk_drew ?_ | refine blk_alloc ?_ _)); refine blk_put (cs := #[.int .i64 0, .slice none 0 0, .slice none 0 0, .slice none 0 0]) ?_ 0 _ rfl; (with_reducible repeat (first | refine blk_drewN ?_ _ | refine blk_drew ?_ | refine blk_alloc ?_ _)); exact BK1469.out⟩, ⟨hb_ HB.out⟩⟩
  ·
   replace c19 := Bool.eq_false_iff.mpr c19
   subst c19
   have H1 : (some (t1459, t1460, t1463, t1466)) = some (r1, r2, r3, r4) := by rw [if_neg (show ¬ (false = true) by decide)] at H; exact H
   clear H
   have H := H1
   clear H1
   simp only [Option.some.injEq, Prod.mk.injEq] at H
   obtain ⟨rfl, rfl, rfl, rfl⟩ := H
   have hnb20 := NB1469_1457.out
   have hnc20 := NB1457_1469.out
   have hnb21 := NB1469_1458.out
   have hnc21 := NB1458_1469.out
   have hcz22_0 : w12.cell? ⟨gb1469, 0, none⟩ = some (.int .i64 0) := (blk_cell BK1469.out 0).trans rfl
   have hcz22_1 : w12.cell? ⟨gb1469, 1, none⟩ = some (.slice none 0 0) := (blk_cell BK1469.out 1).trans rfl
   have hcz22_2 : w12.cell? ⟨gb1469, 2, none⟩ = some (.slice none 0 0) := (blk_cell BK1469.out 2).trans rfl
   have hcz22_3 : w12.cell? ⟨gb1469, 3, none⟩ = some (.slice none 0 0) := (blk_cell BK1469.out 3).trans rfl
   have hfz22_0 := blk_frozen BK1469.out 0
   have hfz22_1 := blk_frozen BK1469.out 1
   have hfz22_2 := blk_frozen BK1469.out 2
   have hfz22_3 := blk_frozen BK1469.out 3
   have hnb23 := NB1458_1457.out
   have hnc23 := NB1457_1458.out
   have hcz24_0 : w12.cell? ⟨gb1458, 0, none⟩ = some (.int .i64 0) := (blk_cell BK1458.out 0).trans rfl
   have hcz24_1 : w12.cell? ⟨gb1458, 1, none⟩ = some (.slice none 0 0) := (blk_cell BK1458.out 1).trans rfl
   have hcz24_2 : w12.cell? ⟨gb1458, 2, none⟩ = some (.slice none 0 0) := (blk_cell BK1458.out 2).trans rfl
   have hcz24_3 : w12.cell? ⟨gb1458, 3, none⟩ = some (.slice none 0 0) := (blk_cell BK1458.out 3).trans rfl
   have hfz24_0 := blk_frozen BK1458.out 0
   have hfz24_1 := blk_frozen BK1458.out 1
   have hfz24_2 := blk_frozen BK1458.out 2
   have hfz24_3 := blk_frozen BK1458.out 3
   go_wp2
   refine bodyPost_ret (results_cell_row rfl _ _ gb1458 26 #[.int .i64 t1459, .slice Ao16 t1460.length co16, .slice Ao17 t1463.length co17, .slice Ao18 t1466.length co18] (0, 0) _ rfl (by (with_reducible repeat (first | refine blk_drewN ?_ _ | refine blk_drew ?_ | refine blk_alloc ?_ _)); refine blk_put (cs := #[.int .i64 t1459, .slice Ao16 t1460.length co16, .slice Ao17 t1463.length co17, .slice none 0 0]) ?_ 3 _ rfl; (with_reducible repeat (first | refine blk_drewN ?_ _ | refine blk_drew ?_ | refine blk_alloc ?_ _)); refine blk_put (cs := #[.int .i64 t1459, .slice Ao16 t1460.length co16, .slice none 0 0, .slice none 0 0]) ?_ 2 _ rfl; (with_reducible repeat (first | refine blk_drewN ?_ _ | refine blk_drew ?_ | refine blk_alloc ?_ _)); refine blk_put (cs := #[.int .i64 t1459, .slice none 0 0, .slice none 0 0, .slice none 0 0]) ?_ 1 _ rfl; (with_reducible repeat (first | refine blk_drewN ?_ _ | refine blk_drew ?_ | refine blk_alloc ?_ _)); refine blk_put (cs := #[.int .i64 0, .slice none 0 0, .slice none 0 0, .slice none 0 0]) ?_ 0 _ rfl; (with_reducible repeat (first | refine blk_drewN ?_ _ | refine blk_drew ?_ | refine blk_alloc ?_ _)); refine blk_far ?_ NB1458_1469.out _; (with_reducible repeat (first | refine blk_drewN ?_ _ | refine blk_drew ?_ | refine blk_alloc ?_ _)); refine blk_far ?_ NB1458_1469.out _; (with_reducible repeat (first | refine blk_drewN ?_ _ | refine blk_drew ?_ | refine blk_alloc ?_ _)); refine blk_far ?_ NB1458_1469.out _; (with_reducible repeat (first | refine blk_drewN ?_ _ | refine blk_drew ?_ | refine blk_alloc ?_ _)); refine blk_far ?_ NB1458_1469.out _; (with_reducible repeat (first | refine blk_drewN ?_ _ | refine blk_drew ?_ | refine blk_alloc ?_ _)); exact BK1458.out) Try.underlying26 rfl (by kernel_rfl)) rfl ?_
   exact ⟨_, _, _, er_, by (with_reducible repeat (first | apply Kd.R_alloc | apply Kd.R_drewN | apply Kd.R_drew)); exact Kd.R_mono (Kd.R_far (p := ⟨gb1458, 3, none⟩) (Kd.R_far (p := ⟨gb1458, 2, none⟩) (Kd.R_far (p := ⟨gb1458, 1, none⟩) (Kd.R_far (p := ⟨gb1458, 0, none⟩) (Kd.R_far (p := ⟨gb1469, 3, none⟩) (Kd.R_far (p := ⟨gb1469, 2, none⟩) (Kd.R_far (p := ⟨gb1469, 1, none⟩) (Kd.R_far (p := ⟨gb1469, 0, none⟩) (Kd.R_types (Kd.R_types HO1462.out BK1469.out (by decide)) BK1458.out (by decide)) (fun _ hk => hk.1.2) (.int .i64 t1459)) (fun _ hk => hk.1.2) (.slice Ao16 t1460.length co16)) (fun _ hk => hk.1.2) (.slice Ao17 t1463.length co17)) (fun _ hk => hk.1.2) (.slice Ao18 t1466.length co18)) (fun _ hk => hk.2) (.int .i64 t1459)) (fun _ hk => hk.2) (.slice Ao16 t1460.length co16)) (fun _ hk => hk.2) (.slice Ao17 t1463.length co17)) (fun _ hk => hk.2) (.slice Ao18 t1466.length co18)) (fun _ hk => ⟨hk.1.1.1, hk.1.1.2⟩), by (with_reducible repeat (first | apply Kd.R_alloc | apply Kd.R_drewN | apply Kd.R_drew)); exact Kd.R_mono (Kd.R_far (p := ⟨gb1458, 3, none⟩) (Kd.R_far (p := ⟨gb1458, 2, none⟩) (Kd.R_far (p := ⟨gb1458, 1, none⟩) (Kd.R_far (p := ⟨gb1458, 0, none⟩) (Kd.R_far (p := ⟨gb1469, 3, none⟩) (Kd.R_far (p := ⟨gb1469, 2, none⟩) (Kd.R_far (p := ⟨gb1469, 1, none⟩) (Kd.R_far (p := ⟨gb1469, 0, none⟩) (Kd.R_types (Kd.R_types HO1465.out BK1469.out (by decide)) BK1458.out (by decide)) (fun _ hk => hk.1.2) (.int .i64 t1459)) (fun _ hk => hk.1.2) (.slice Ao16 t1460.length co16)) (fun _ hk => hk.1.2) (.slice Ao17 t1463.length co17)) (fun _ hk => hk.1.2) (.slice Ao18 t1466.length co18)) (fun _ hk => hk.2) (.int .i64 t1459)) (fun _ hk => hk.2) (.slice Ao16 t1460.length co16)) (fun _ hk => hk.2) (.slice Ao17 t1463.length co17)) (fun _ hk => hk.2) (.slice Ao18 t1466.length co18)) (fun _ hk => ⟨hk.1.1.1, hk.1.1.2⟩), by (with_reducible repeat (first | apply Kd.R_alloc | apply Kd.R_drewN | apply Kd.R_drew)); exact Kd.R_mono (Kd.R_far (p := ⟨gb1458, 3, none⟩) (Kd.R_far (p := ⟨gb1458, 2, none⟩) (Kd.R_far (p := ⟨gb1458, 1, none⟩) (Kd.R_far (p := ⟨gb1458, 0, none⟩) (Kd.R_far (p := ⟨gb1469, 3, none⟩) (Kd.R_far (p := ⟨gb1469, 2, none⟩) (Kd.R_far (p := ⟨gb1469, 1, none⟩) (Kd.R_far (p := ⟨gb1469, 0, none⟩) (Kd.R_types (Kd.R_types HO1468.out BK1469.out (by decide)) BK1458.out (by decide)) (fun _ hk => hk.1.2) (.int .i64 t1459)) (fun _ hk => hk.1.2) (.slice Ao16 t1460.length co16)) (fun _ hk => hk.1.2) (.slice Ao17 t1463.length co17)) (fun _ hk => hk.1.2) (.slice Ao18 t1466.length co18)) (fun _ hk => hk.2) (.int .i64 t1459)) (fun _ hk => hk.2) (.slice Ao16 t1460.length co16)) (fun _ hk => hk.2) (.slice Ao17 t1463.length co17)) (fun _ hk => hk.2) (.slice Ao18 t1466.length co18)) (fun _ hk => ⟨hk.1.1.1, hk.1.1.2⟩), hb_ HB.out⟩
 case rest =>
  clear HC6
  (try clear c1); (try clear c2); (try clear p2); (try clear c8); (try clear c9); (try clear c13); (try clear c14); (try clear c17); (try clear c19); (try clear c20); (try clear c21); (try clear c23); (try clear hcz10_0); (try clear hcz10_1); (try clear hcz10_2); (try clear hcz10_3); (try clear hcz15_0); (try clear hcz15_1); (try clear hcz15_2); (try clear hcz15_3); (try clear hcz22_0); (try clear hcz22_1); (try clear hcz22_2); (try clear hcz22_3); (try clear hcz24_0); (try clear hcz24_1); (try clear hcz24_2); (try clear hcz24_3); (try clear hfz10_0); (try clear hfz10_1); (try clear hfz10_2); (try clear hfz10_3); (try clear hfz15_0); (try clear hfz15_1); (try clear hfz15_2); (try clear hfz15_3); (try clear hfz22_0); (try clear hfz22_1); (try clear hfz22_2); (try clear hfz22_3); (try clear hfz24_0); (try clear hfz24_1); (try clear hfz24_2); (try clear hfz24_3)
  obtain ⟨kq, x1459000_5, HA, HJ5, HO_1470001, HO_1470002, HO_1470003, BK1457, BK1458, BK1469, HB⟩ := hcut
  cases kq with
  | zero => exact absurd HA.out (by simp [spec_GroupJoin.j0])
  | succ kj5 =>
   have H := HA.out
   clear HA
   simp only [spec_GroupJoin.j0] at H
   replace H := Option.bind_eq_some_iff.mp H
   obtain ⟨t1471, A250, H⟩ := H
   replace H : (if t1471 ≥ 0 then (if t1471 < (t1463.length : Int) then (if 0 ≤ t1471 then (some (t1459, t1460, (t1463.set (t1471 : Int).toNat a2), t1466)) else (none)) else (some (t1459, t1460, t1463, t1466))) else (spec_GroupJoin.j1 kj5 a1 a2 a0_0 l0_1 l0_2 l0_3 t1459 t1460 t1463 t1466)) = some (r1, r2, r3, r4) := H
   have A25 := Aside0.mk A250
   clear A250
   have HC26 := Aside0.mk H
   clear H
   have hnb27 := NB1457_1458.out
   have hnc27 := NB1458_1457.out
   have hnb28 := NB1457_1469.out
   have hnc28 := NB1469_1457.out
   have hcz29_0 : wc.cell? ⟨gb1457, 0, none⟩ = some (.int .i64 a0_0) := (blk_cell BK1457.out 0).trans rfl
   have hcz29_1 : wc.cell? ⟨gb1457, 1, none⟩ = some (.slice A0_1 l0_1.length c0_1) := (blk_cell BK1457.out 1).trans rfl
   have hcz29_2 : wc.cell? ⟨gb1457, 2, none⟩ = some (.slice A0_2 l0_2.length c0_2) := (blk_cell BK1457.out 2).trans rfl
   have hcz29_3 : wc.cell? ⟨gb1457, 3, none⟩ = some (.slice A0_3 l0_3.length c0_3) := (blk_cell BK1457.out 3).trans rfl
   have hfz29_0 := blk_frozen BK1457.out 0
   have hfz29_1 := blk_frozen BK1457.out 1
   have hfz29_2 := blk_frozen BK1457.out 2
   have hfz29_3 := blk_frozen BK1457.out 3
   go_upto_if 21 with (first | ((with_reducible refine gate_callee (f := 176) rfl ?_); refine goesL_ (some 19) rfl rfl Try.func176 (by kernel_rfl) rfl #[.agg #[.int .i64 a0_0, .slice A0_1 l0_1.length c0_1, .slice A0_2 l0_2.length c0_2, .slice A0_3 l0_3.length c0_3], .int .i64 a1] rfl sm_ ?_; (with_reducible refine (spec_l5At.calls kj5 a0_0 _ _ l0_1 _ _ l0_2 _ _ l0_3 a1 t1471 _ ?side1 ?side2 ?side3 ?side4 ?side5 ?side6 A25.out).mono ?_); (case side1 => repeat (first | exact (Kd.C_below HR0_1.out HB.out) | (with_reducible refine Kd.C_alloc ?_ _) | (with_reducible refine Kd.C_drewN ?_ _) | (with_reducible refine Kd.C_drew ?_))); (case side2 => exact HC0_1.out); (case side3 => repeat (first | exact (Kd.C_below HR0_2.out HB.out) | (with_reducible refine Kd.C_alloc ?_ _) | (with_reducible refine Kd.C_drewN ?_ _) | (with_reducible refine Kd.C_drew ?_))); (case side4 => exact HC0_2.out); (case side5 => repeat (first | exact (Kd.C_below HR0_3.out HB.out) | (with_reducible refine Kd.C_alloc ?_ _) | (with_reducible refine Kd.C_drewN ?_ _) | (with_reducible refine Kd.C_drew ?_))); (case side6 => exact HC0_3.out); rintro e w30 ⟨rfl, hb⟩; refine ⟨_, rfl, ?_⟩; have n0_ := Aside0.mk (Kd.R_below (rq_ HO_1470001.out) hb); have n1_ := Aside0.mk (Kd.R_below (rq_ HO_1470002.out) hb); have n2_ := Aside0.mk (Kd.R_below (rq_ HO_1470003.out) hb); have n3_ := Aside0.mk (bb_ BK1457.out hb); have n4_ := Aside0.mk (bb_ BK1458.out hb); have n5_ := Aside0.mk (bb_ BK1469.out hb); have n6_ := Aside0.mk (below_step (hb_ HB.out) hb); clear HO_1470001; clear HO_1470002; clear HO_1470003; clear BK1457; clear BK1458; clear BK1469; clear HB; have HO_1470001 := n0_; have HO_1470002 := n1_; have HO_1470003 := n2_; have BK1457 := n3_; have BK1458 := n4_; have BK1469 := n5_; have HB := n6_; clear n0_ n1_ n2_ n3_ n4_ n5_ n6_; (try clear hb); (try clear hb2); (try clear hk); (try clear hi)))
   (try simp only [Act.put, List.setIfInBounds_toArray, List.set_cons_zero, List.set_cons_succ])
   go_cut [] (fun wc => ∃ (kq : Nat) (x1459000_25 : Int) (x1470001_25 : List Int) (x1470002_25 : List Int) (x1470003_25 : List Int) (u1470001 : Value) (u1470002 : Value) (u1470003 : Value), Aside0 (spec_GroupJoin.j1 kq a1 a2 a0_0 l0_1 l0_2 l0_3 t1459 x1470001_25 x1470002_25 x1470003_25 = some (r1, r2, r3, r4)) ∧ Aside0 (kq ≤ kj5) ∧ Aside0 (Kd.R (Kd.int .i64) 3 wc w.heap.size (fun k_ => some k_ ≠ (u1470002 : Value).ownBlock ∧ some k_ ≠ (u1470003 : Value).ownBlock) u1470001 x1470001_25) ∧ Aside0 (Kd.R (Kd.int .i64) 3 wc w.heap.size (fun k_ => some k_ ≠ (u1470001 : Value).ownBlock ∧ some k_ ≠ (u1470003 : Value).ownBlock) u1470002 x1470002_25) ∧ Aside0 (Kd.R (Kd.int .i64) 3 wc w.heap.size (fun k_ => some k_ ≠ (u1470001 : Value).ownBlock ∧ some k_ ≠ (u1470002 : Value).ownBlock) u1470003 x1470003_25) ∧ Aside0 (wc.heap[gb1457]? = some (.cells #[.int .i64 a0_0, (.slice A0_1 l0_1.length c0_1), (.slice A0_2 l0_2.length c0_2), (.slice A0_3 l0_3.length c0_3)] 26 (0, 0))) ∧ Aside0 (wc.heap[gb1458]? = some (.cells #[.int .i64 x1459000_25, (.slice none 0 0), (.slice none 0 0), (.slice none 0 0)] 26 (0, 0))) ∧ Aside0 (wc.heap[gb1469]? = some (.cells #[.int .i64 t1459, u1470001, u1470002, u1470003] 26 (0, 0))) ∧ Aside0 (Below w.heap.size w wc))
   case first =>
    have H := HC26.out
    clear HC26
    by_cases c31 : t1471 ≥ 0
    ·
     rw [if_pos c31] at H
     have c31b0 : decide (0 ≤ t1471) = true := decide_eq_true c31
     clear c31
     (first | rw [c31b0] | (simp only [i64_w, i32_w]; rw [c31b0]) | rw [c31b4] | rw [c31b3] | skip)
     by_cases c32 : t1471 < (t1463.length : Int)
     ·
      rw [if_pos c32] at H
      have c32b0 : decide (t1471 < (t1463.length : Int)) = true := decide_eq_true c32
      clear c32
      by_cases c33 : 0 ≤ t1471
      ·
       rw [if_pos c33] at H
       have c33b0 : decide (0 ≤ t1471) = true := decide_eq_true c33
       clear c33
       obtain ⟨y1472, hy1472⟩ : ∃ y_ : List Int, y_ = (t1463.set (t1471 : Int).toNat a2) := ⟨_, rfl⟩
       replace H : (some (t1459, t1460, y1472, t1466)) = some (r1, r2, r3, r4) := by first | (rw [hy1472]; with_reducible exact H) | (have H2_ := (Option.bind_some _ _).symm.trans H; rw [hy1472]; with_reducible exact H2_) | (have H2_ := (Option.bind_some _ _).symm.trans H; with_reducible exact H2_) | with_reducible exact H | (rw [hy1472]; exact H) | exact H
       have Ny1472 := Aside0.mk hy1472
       clear hy1472
       simp only [Option.some.injEq, Prod.mk.injEq] at H
       obtain ⟨rfl, rfl, rfl, rfl⟩ := H
       have hnb35 := NB1469_1457.out
       have hnc35 := NB1457_1469.out
       have hnb36 := NB1469_1458.out
       have hnc36 := NB1458_1469.out
       have hcz37_0 : w30.cell? ⟨gb1469, 0, none⟩ = some (.int .i64 t1459) := (blk_cell BK1469.out 0).trans rfl
       have hcz37_1 : w30.cell? ⟨gb1469, 1, none⟩ = some (.slice Ao16 t1460.length co16) := (blk_cell BK1469.out 1).trans rfl
       have hcz37_2 : w30.cell? ⟨gb1469, 2, none⟩ = some (.slice Ao17 t1463.length co17) := (blk_cell BK1469.out 2).trans rfl
       have hcz37_3 : w30.cell? ⟨gb1469, 3, none⟩ = some (.slice Ao18 t1466.length co18) := (blk_cell BK1469.out 3).trans rfl
       have hfz37_0 := blk_frozen BK1469.out 0
       have hfz37_1 := blk_frozen BK1469.out 1
       have hfz37_2 := blk_frozen BK1469.out 2
       have hfz37_3 := blk_frozen BK1469.out 3
       have p34 : 0 ≤ (t1471 : Int) := of_decide_eq_true (by first | (with_reducible assumption) | assumption)
       have q34 : (t1471 : Int) < ((t1463.length : Int) : Int) := of_decide_eq_true (by first | (with_reducible assumption) | assumption)
       obtain ⟨go34, co34, eo34, gb34, gl34, cl34, HG34⟩ := Kd.R_form HO_1470002.out (by omega)
       (first | cases eo34 | (injection eo34 with ea_ en_ ec_; (first | subst ea_ | (injection ea_ with ea_; subst ea_)); subst ec_; clear en_))
       have GB34 := Aside0.mk gb34
       have GG34 := Aside0.mk HG34
       clear gb34 gl34 HG34
       obtain ⟨hx34_0, hf34_0⟩ := Kd.R_celln 0 HO_1470002.out (t1471 : Int) p34 q34
       replace p34 := eq_true p34
       replace q34 := eq_true q34
       have HP38 := Kd.R_putg HO_1470002.out (t1471 : Int) a2
       go_wp2_with (first | ((with_reducible refine gate_store (t := 3) (p := 31) rfl ?_); refine store_event (t := 3) (p := 31) (v := ?vo_w39) (w1 := (w30.setCell ⟨go34, (t1471 : Int).toNat, none⟩ (.int .i64 a2))) ?hg ?ho ?hn ?hr ?_; (case ho => rfl); (case hg => rfl); (case hn => rfl); (case hr => first | (go_simp; done) | (go_simp; rfl)); intro w39 hw; have hg : w30.grownBy w39 (some go34) := (by rw [hw]; exact HP38.2); have hp_ : Kd.R (Kd.int .i64) 3 w39 w.heap.size (fun k_ => some k_ ≠ (.slice Ao16 t1460.length co16 : Value).ownBlock ∧ some k_ ≠ (.slice Ao18 t1466.length co18 : Value).ownBlock) (.slice (some ⟨go34, 0, none⟩) t1463.length co17) y1472 := (by rw [hw, Ny1472.out]; exact HP38.1); clear HP38; have n0_ := Aside0.mk (Kd.R_after (v := (.slice (some ⟨go34, 0, none⟩) t1463.length co17)) (v1 := (.slice (some ⟨go34, 0, none⟩) t1463.length co17)) (ok := (fun k_ => some k_ ≠ (.slice Ao18 t1466.length co18 : Value).ownBlock)) (rm_ HO_1470001.out) hg (.inl rfl)); have n1_ := Aside0.mk (hp_); have n2_ := Aside0.mk (Kd.R_after (v := (.slice (some ⟨go34, 0, none⟩) t1463.length co17)) (v1 := (.slice (some ⟨go34, 0, none⟩) t1463.length co17)) (ok := (fun k_ => some k_ ≠ (.slice Ao16 t1460.length co16 : Value).ownBlock)) (rq_ HO_1470003.out) hg (.inl rfl)); have n3_ := Aside0.mk (blk_grown (g := gb1457) (o := .cells #[.int .i64 a0_0, .slice A0_1 l0_1.length c0_1, .slice A0_2 l0_2.length c0_2, .slice A0_3 l0_3.length c0_3] 26 (0, 0)) (bq_ BK1457.out) hg (Kd.R_ne HO_1470002.out BK1457.out (by decide))); have n4_ := Aside0.mk (blk_grown (g := gb1458) (o := .cells #[.int .i64 x1459000_5, .slice none 0 0, .slice none 0 0, .slice none 0 0] 26 (0, 0)) (bq_ BK1458.out) hg (Kd.R_ne HO_1470002.out BK1458.out (by decide))); have n5_ := Aside0.mk (blk_grown (g := gb1469) (o := .cells #[.int .i64 t1459, .slice Ao16 t1460.length co16, .slice (some ⟨go34, 0, none⟩) t1463.length co17, .slice Ao18 t1466.length co18] 26 (0, 0)) (bq_ BK1469.out) hg (Kd.R_ne HO_1470002.out BK1469.out (by decide))); have n6_ := Aside0.mk ((by rw [hw]; exact below_set (HB.out) GB34.out : Below w.heap.size w w39)); clear HO_1470001; clear HO_1470002; clear HO_1470003; clear BK1457; clear BK1458; clear BK1469; clear HB; have HO_1470001 := n0_; have HO_1470002 := n1_; have HO_1470003 := n2_; have BK1457 := n3_; have BK1458 := n4_; have BK1469 := n5_; have HB := n6_; clear n0_ n1_ n2_ n3_ n4_ n5_ n6_; clear hg hw hp_; have hcz40_0 : w39.cell? ⟨gb1469, 0, none⟩ = some (.int .i64 t1459) := (blk_cell BK1469.out 0).trans rfl; have hcz40_1 : w39.cell? ⟨gb1469, 1, none⟩ = some (.slice Ao16 t1460.length co16) := (blk_cell BK1469.out 1).trans rfl; have hcz40_2 : w39.cell? ⟨gb1469, 2, none⟩ = some (.slice (some ⟨go34, 0, none⟩) t1463.length co17) := (blk_cell BK1469.out 2).trans rfl; have hcz40_3 : w39.cell? ⟨gb1469, 3, none⟩ = some (.slice Ao18 t1466.length co18) := (blk_cell BK1469.out 3).trans rfl; have hfz40_0 := blk_frozen BK1469.out 0; have hfz40_1 := blk_frozen BK1469.out 1; have hfz40_2 := blk_frozen BK1469.out 2; have hfz40_3 := blk_frozen BK1469.out 3; have hnb41 := NB1458_1457.out; have hnc41 := NB1457_1458.out; have hcz42_0 : w39.cell? ⟨gb1458, 0, none⟩ = some (.int .i64 x1459000_5) := (blk_cell BK1458.out 0).trans rfl; have hcz42_1 : w39.cell? ⟨gb1458, 1, none⟩ = some (.slice none 0 0) := (blk_cell BK1458.out 1).trans rfl; have hcz42_2 : w39.cell? ⟨gb1458, 2, none⟩ = some (.slice none 0 0) := (blk_cell BK1458.out 2).trans rfl; have hcz42_3 : w39.cell? ⟨gb1458, 3, none⟩ = some (.slice none 0 0) := (blk_cell BK1458.out 3).trans rfl; have hfz42_0 := blk_frozen BK1458.out 0; have hfz42_1 := blk_frozen BK1458.out 1; have hfz42_2 := blk_frozen BK1458.out 2; have hfz42_3 := blk_frozen BK1458.out 3))
       refine bodyPost_ret (results_cell_row rfl _ _ gb1458 26 #[.int .i64 t1459, .slice Ao16 t1460.length co16, .slice (some ⟨go34, 0, none⟩) t1463.length co17, .slice Ao18 t1466.length co18] (0, 0) _ rfl (bp_ BK1458.out) Try.underlying26 rfl (by kernel_rfl)) rfl ?_
       exact ⟨_, _, _, er_, by (with_reducible repeat (first | apply Kd.R_alloc | apply Kd.R_drewN | apply Kd.R_drew)); exact Kd.R_mono (Kd.R_far (p := ⟨gb1458, 3, none⟩) (Kd.R_far (p := ⟨gb1458, 2, none⟩) (Kd.R_far (p := ⟨gb1458, 1, none⟩) (Kd.R_far (p := ⟨gb1458, 0, none⟩) (Kd.R_types HO_1470001.out BK1458.out (by decide)) (fun _ hk => hk.2) (.int .i64 t1459)) (fun _ hk => hk.2) (.slice Ao16 t1460.length co16)) (fun _ hk => hk.2) (.slice (some ⟨go34, 0, none⟩) t1463.length co17)) (fun _ hk => hk.2) (.slice Ao18 t1466.length co18)) (fun _ hk => ⟨hk.1.2, hk.1.1⟩), by (with_reducible repeat (first | apply Kd.R_alloc | apply Kd.R_drewN | apply Kd.R_drew)); exact Kd.R_mono (Kd.R_far (p := ⟨gb1458, 3, none⟩) (Kd.R_far (p := ⟨gb1458, 2, none⟩) (Kd.R_far (p := ⟨gb1458, 1, none⟩) (Kd.R_far (p := ⟨gb1458, 0, none⟩) (Kd.R_types HO_1470002.out BK1458.out (by decide)) (fun _ hk => hk.2) (.int .i64 t1459)) (fun _ hk => hk.2) (.slice Ao16 t1460.length co16)) (fun _ hk => hk.2) (.slice (some ⟨go34, 0, none⟩) t1463.length co17)) (fun _ hk => hk.2) (.slice Ao18 t1466.length co18)) (fun _ hk => ⟨hk.1.1, hk.1.2⟩), by (with_reducible repeat (first | apply Kd.R_alloc | apply Kd.R_drewN | apply Kd.R_drew)); exact Kd.R_mono (Kd.R_far (p := ⟨gb1458, 3, none⟩) (Kd.R_far (p := ⟨gb1458, 2, none⟩) (Kd.R_far (p := ⟨gb1458, 1, none⟩) (Kd.R_far (p := ⟨gb1458, 0, none⟩) (Kd.R_types HO_1470003.out BK1458.out (by decide)) (fun _ hk => hk.2) (.int .i64 t1459)) (fun _ hk => hk.2) (.slice Ao16 t1460.length co16)) (fun _ hk => hk.2) (.slice (some ⟨go34, 0, none⟩) t1463.length co17)) (fun _ hk => hk.2) (.slice Ao18 t1466.length co18)) (fun _ hk => ⟨hk.1.1, hk.1.2⟩), hb_ HB.out⟩
      ·
       rw [if_neg c33] at H
       exact absurd H (by simp)
     ·
      rw [if_neg c32] at H
      have c32b0 : decide (t1471 < (t1463.length : Int)) = false := decide_eq_false c32
      clear c32
      simp only [Option.some.injEq, Prod.mk.injEq] at H
      obtain ⟨rfl, rfl, rfl, rfl⟩ := H
      have hnb43 := NB1469_1457.out
      have hnc43 := NB1457_1469.out
      have hnb44 := NB1469_1458.out
      have hnc44 := NB1458_1469.out
      have hcz45_0 : w30.cell? ⟨gb1469, 0, none⟩ = some (.int .i64 t1459) := (blk_cell BK1469.out 0).trans rfl
      have hcz45_1 : w30.cell? ⟨gb1469, 1, none⟩ = some (.slice Ao16 t1460.length co16) := (blk_cell BK1469.out 1).trans rfl
      have hcz45_2 : w30.cell? ⟨gb1469, 2, none⟩ = some (.slice Ao17 t1463.length co17) := (blk_cell BK1469.out 2).trans rfl
      have hcz45_3 : w30.cell? ⟨gb1469, 3, none⟩ = some (.slice Ao18 t1466.length co18) := (blk_cell BK1469.out 3).trans rfl
      have hfz45_0 := blk_frozen BK1469.out 0
      have hfz45_1 := blk_frozen BK1469.out 1
      have hfz45_2 := blk_frozen BK1469.out 2
      have hfz45_3 := blk_frozen BK1469.out 3
      have hnb46 := NB1458_1457.out
      have hnc46 := NB1457_1458.out
      have hcz47_0 : w30.cell? ⟨gb1458, 0, none⟩ = some (.int .i64 x1459000_5) := (blk_cell BK1458.out 0).trans rfl
      have hcz47_1 : w30.cell? ⟨gb1458, 1, none⟩ = some (.slice none 0 0) := (blk_cell BK1458.out 1).trans rfl
      have hcz47_2 : w30.cell? ⟨gb1458, 2, none⟩ = some (.slice none 0 0) := (blk_cell BK1458.out 2).trans rfl
      have hcz47_3 : w30.cell? ⟨gb1458, 3, none⟩ = some (.slice none 0 0) := (blk_cell BK1458.out 3).trans rfl
      have hfz47_0 := blk_frozen BK1458.out 0
      have hfz47_1 := blk_frozen BK1458.out 1
      have hfz47_2 := blk_frozen BK1458.out 2
      have hfz47_3 := blk_frozen BK1458.out 3
      go_wp2
      refine bodyPost_ret (results_cell_row rfl _ _ gb1458 26 #[.int .i64 t1459, .slice Ao16 t1460.length co16, .slice Ao17 t1463.length co17, .slice Ao18 t1466.length co18] (0, 0) _ rfl (bp_ BK1458.out) Try.underlying26 rfl (by kernel_rfl)) rfl ?_
      exact ⟨_, _, _, er_, by (with_reducible repeat (first | apply Kd.R_alloc | apply Kd.R_drewN | apply Kd.R_drew)); exact Kd.R_mono (Kd.R_far (p := ⟨gb1458, 3, none⟩) (Kd.R_far (p := ⟨gb1458, 2, none⟩) (Kd.R_far (p := ⟨gb1458, 1, none⟩) (Kd.R_far (p := ⟨gb1458, 0, none⟩) (Kd.R_types HO_1470001.out BK1458.out (by decide)) (fun _ hk => hk.2) (.int .i64 t1459)) (fun _ hk => hk.2) (.slice Ao16 t1460.length co16)) (fun _ hk => hk.2) (.slice Ao17 t1463.length co17)) (fun _ hk => hk.2) (.slice Ao18 t1466.length co18)) (fun _ hk => ⟨hk.1.1, hk.1.2⟩), by (with_reducible repeat (first | apply Kd.R_alloc | apply Kd.R_drewN | apply Kd.R_drew)); exact Kd.R_mono (Kd.R_far (p := ⟨gb1458, 3, none⟩) (Kd.R_far (p := ⟨gb1458, 2, none⟩) (Kd.R_far (p := ⟨gb1458, 1, none⟩) (Kd.R_far (p := ⟨gb1458, 0, none⟩) (Kd.R_types HO_1470002.out BK1458.out (by decide)) (fun _ hk => hk.2) (.int .i64 t1459)) (fun _ hk => hk.2) (.slice Ao16 t1460.length co16)) (fun _ hk => hk.2) (.slice Ao17 t1463.length co17)) (fun _ hk => hk.2) (.slice Ao18 t1466.length co18)) (fun _ hk => ⟨hk.1.1, hk.1.2⟩), by (with_reducible repeat (first | apply Kd.R_alloc | apply Kd.R_drewN | apply Kd.R_drew)); exact Kd.R_mono (Kd.R_far (p := ⟨gb1458, 3, none⟩) (Kd.R_far (p := ⟨gb1458, 2, none⟩) (Kd.R_far (p := ⟨gb1458, 1, none⟩) (Kd.R_far (p := ⟨gb1458, 0, none⟩) (Kd.R_types HO_1470003.out BK1458.out (by decide)) (fun _ hk => hk.2) (.int .i64 t1459)) (fun _ hk => hk.2) (.slice Ao16 t1460.length co16)) (fun _ hk => hk.2) (.slice Ao17 t1463.length co17)) (fun _ hk => hk.2) (.slice Ao18 t1466.length co18)) (fun _ hk => ⟨hk.1.1, hk.1.2⟩), hb_ HB.out⟩
    ·
     rw [if_neg c31] at H
     have c31b0 : decide (0 ≤ t1471) = false := decide_eq_false c31
     clear c31
     (first | rw [c31b0] | (simp only [i64_w, i32_w]; rw [c31b0]) | rw [c31b4] | rw [c31b3] | skip)
     have H' := Aside0.mk H
     clear H
     go_wp2
     go_meet
     case rel => exact ⟨_, (x1459000_5), (t1460), (t1463), (t1466), (.slice Ao16 t1460.length co16), (.slice Ao17 t1463.length co17), (.slice Ao18 t1466.length co18), H', ⟨by have := HJ5.out; first | omega | exact Nat.le_refl _⟩, ⟨rq_ HO_1470001.out⟩, ⟨rq_ HO_1470002.out⟩, ⟨rq_ HO_1470003.out⟩, ⟨bq_ BK1457.out⟩, ⟨bq_ BK1458.out⟩, ⟨bq_ BK1469.out⟩, ⟨hb_ HB.out⟩⟩
   case rest =>
    clear HC26
    (try clear c1); (try clear c2); (try clear p2); (try clear c3); (try clear p3); (try clear q3); (try clear hx3); (try clear hf3); (try clear c4); (try clear c8); (try clear c9); (try clear c13); (try clear c14); (try clear c17); (try clear c19); (try clear c20); (try clear c21); (try clear c23); (try clear c27); (try clear c28); (try clear c31); (try clear c31b0); (try clear c32); (try clear c32b0); (try clear c33); (try clear c33b0); (try clear p34); (try clear q34); (try clear hx34); (try clear hf34); (try clear c35); (try clear c36); (try clear c41); (try clear c43); (try clear c44); (try clear c46); (try clear hcz10_0); (try clear hcz10_1); (try clear hcz10_2); (try clear hcz10_3); (try clear hcz15_0); (try clear hcz15_1); (try clear hcz15_2); (try clear hcz15_3); (try clear hcz22_0); (try clear hcz22_1); (try clear hcz22_2); (try clear hcz22_3); (try clear hcz24_0); (try clear hcz24_1); (try clear hcz24_2); (try clear hcz24_3); (try clear hcz29_0); (try clear hcz29_1); (try clear hcz29_2); (try clear hcz29_3); (try clear hcz37_0); (try clear hcz37_1); (try clear hcz37_2); (try clear hcz37_3); (try clear hcz40_0); (try clear hcz40_1); (try clear hcz40_2); (try clear hcz40_3); (try clear hcz42_0); (try clear hcz42_1); (try clear hcz42_2); (try clear hcz42_3); (try clear hcz45_0); (try clear hcz45_1); (try clear hcz45_2); (try clear hcz45_3); (try clear hcz47_0); (try clear hcz47_1); (try clear hcz47_2); (try clear hcz47_3); (try clear hfz10_0); (try clear hfz10_1); (try clear hfz10_2); (try clear hfz10_3); (try clear hfz15_0); (try clear hfz15_1); (try clear hfz15_2); (try clear hfz15_3); (try clear hfz22_0); (try clear hfz22_1); (try clear hfz22_2); (try clear hfz22_3); (try clear hfz24_0); (try clear hfz24_1); (try clear hfz24_2); (try clear hfz24_3); (try clear hfz29_0); (try clear hfz29_1); (try clear hfz29_2); (try clear hfz29_3); (try clear hfz37_0); (try clear hfz37_1); (try clear hfz37_2); (try clear hfz37_3); (try clear hfz40_0); (try clear hfz40_1); (try clear hfz40_2); (try clear hfz40_3); (try clear hfz42_0); (try clear hfz42_1); (try clear hfz42_2); (try clear hfz42_3); (try clear hfz45_0); (try clear hfz45_1); (try clear hfz45_2); (try clear hfz45_3); (try clear hfz47_0); (try clear hfz47_1); (try clear hfz47_2); (try clear hfz47_3); (try clear hx34_0); (try clear p2); (try clear p34); (try clear q34)
    obtain ⟨kq, x1459000_25, x1470001_25, x1470002_25, x1470003_25, u1470001, u1470002, u1470003, HA, HJ25, HO_1470001, HO_1470002, HO_1470003, BK1457, BK1458, BK1469, HB⟩ := hcut
    cases kq with
    | zero => exact absurd HA.out (by simp [spec_GroupJoin.j1])
    | succ kj25 =>
     have H := HA.out
     clear HA
     simp only [spec_GroupJoin.j1] at H
     have HC48 := Aside0.mk H
     clear H
     go_upto_block 0 with (fail)
     go_cut [8] (fun v8 wc => ∃ (kq : Nat) (x8_47 : Int), v8 = .int .i64 x8_47 ∧ Aside0 (spec_GroupJoin.j4 kq a1 a2 x8_47 a0_0 l0_1 l0_2 l0_3 t1459 x1470001_25 x1470002_25 x1470003_25 = some (r1, r2, r3, r4)) ∧ Aside0 (kq ≤ kj25) ∧ Aside0 (Kd.R (Kd.int .i64) 3 wc w.heap.size (fun k_ => some k_ ≠ (u1470002 : Value).ownBlock ∧ some k_ ≠ (u1470003 : Value).ownBlock) u1470001 x1470001_25) ∧ Aside0 (Kd.R (Kd.int .i64) 3 wc w.heap.size (fun k_ => some k_ ≠ (u1470001 : Value).ownBlock ∧ some k_ ≠ (u1470003 : Value).ownBlock) u1470002 x1470002_25) ∧ Aside0 (Kd.R (Kd.int .i64) 3 wc w.heap.size (fun k_ => some k_ ≠ (u1470001 : Value).ownBlock ∧ some k_ ≠ (u1470002 : Value).ownBlock) u1470003 x1470003_25) ∧ Aside0 (wc.heap[gb1457]? = some (.cells #[.int .i64 a0_0, (.slice A0_1 l0_1.length c0_1), (.slice A0_2 l0_2.length c0_2), (.slice A0_3 l0_3.length c0_3)] 26 (0, 0))) ∧ Aside0 (wc.heap[gb1458]? = some (.cells #[.int .i64 x1459000_25, (.slice none 0 0), (.slice none 0 0), (.slice none 0 0)] 26 (0, 0))) ∧ Aside0 (wc.heap[gb1469]? = some (.cells #[.int .i64 t1459, u1470001, u1470002, u1470003] 26 (0, 0))) ∧ Aside0 (Below w.heap.size w wc))
     case first =>
      have H := HC48.out
      clear HC48
      have H' := Aside0.mk H
      clear H
      go_wp2
      go_loopg [8] kj25 (fun kq v8 w' => ∃ (x8_3 : Int), v8 = .int .i64 x8_3 ∧ Aside0 (spec_GroupJoin.l0 kq a1 a2 x8_3 a0_0 l0_1 l0_2 l0_3 t1459 x1470001_25 x1470002_25 x1470003_25 = some (r1, r2, r3, r4)) ∧ Aside0 (kq ≤ kj25) ∧ Aside0 (Kd.R (Kd.int .i64) 3 w' w.heap.size (fun k_ => some k_ ≠ (u1470002 : Value).ownBlock ∧ some k_ ≠ (u1470003 : Value).ownBlock) u1470001 x1470001_25) ∧ Aside0 (Kd.R (Kd.int .i64) 3 w' w.heap.size (fun k_ => some k_ ≠ (u1470001 : Value).ownBlock ∧ some k_ ≠ (u1470003 : Value).ownBlock) u1470002 x1470002_25) ∧ Aside0 (Kd.R (Kd.int .i64) 3 w' w.heap.size (fun k_ => some k_ ≠ (u1470001 : Value).ownBlock ∧ some k_ ≠ (u1470002 : Value).ownBlock) u1470003 x1470003_25) ∧ Aside0 (w'.heap[gb1457]? = some (.cells #[.int .i64 a0_0, (.slice A0_1 l0_1.length c0_1), (.slice A0_2 l0_2.length c0_2), (.slice A0_3 l0_3.length c0_3)] 26 (0, 0))) ∧ Aside0 (w'.heap[gb1458]? = some (.cells #[.int .i64 x1459000_25, (.slice none 0 0), (.slice none 0 0), (.slice none 0 0)] 26 (0, 0))) ∧ Aside0 (w'.heap[gb1469]? = some (.cells #[.int .i64 t1459, u1470001, u1470002, u1470003] 26 (0, 0))) ∧ Aside0 (Below w.heap.size w w'))
      case atStart => exact ⟨(0), (by first | rfl | (simp; done) | (simp [*]; done)), H', ⟨Nat.le_refl _⟩, ⟨rq_ HO_1470001.out⟩, ⟨rq_ HO_1470002.out⟩, ⟨rq_ HO_1470003.out⟩, ⟨bq_ BK1457.out⟩, ⟨bq_ BK1458.out⟩, ⟨bq_ BK1469.out⟩, ⟨hb_ HB.out⟩⟩
      case round =>
       clear H'
       (try clear c1); (try clear c2); (try clear p2); (try clear c3); (try clear p3); (try clear q3); (try clear hx3); (try clear hf3); (try clear c4); (try clear c8); (try clear c9); (try clear c13); (try clear c14); (try clear c17); (try clear c19); (try clear c20); (try clear c21); (try clear c23); (try clear c27); (try clear c28); (try clear c31); (try clear c31b0); (try clear c32); (try clear c32b0); (try clear c33); (try clear c33b0); (try clear p34); (try clear q34); (try clear hx34); (try clear hf34); (try clear c35); (try clear c36); (try clear c41); (try clear c43); (try clear c44); (try clear c46); (try clear hcz10_0); (try clear hcz10_1); (try clear hcz10_2); (try clear hcz10_3); (try clear hcz15_0); (try clear hcz15_1); (try clear hcz15_2); (try clear hcz15_3); (try clear hcz22_0); (try clear hcz22_1); (try clear hcz22_2); (try clear hcz22_3); (try clear hcz24_0); (try clear hcz24_1); (try clear hcz24_2); (try clear hcz24_3); (try clear hcz29_0); (try clear hcz29_1); (try clear hcz29_2); (try clear hcz29_3); (try clear hcz37_0); (try clear hcz37_1); (try clear hcz37_2); (try clear hcz37_3); (try clear hcz40_0); (try clear hcz40_1); (try clear hcz40_2); (try clear hcz40_3); (try clear hcz42_0); (try clear hcz42_1); (try clear hcz42_2); (try clear hcz42_3); (try clear hcz45_0); (try clear hcz45_1); (try clear hcz45_2); (try clear hcz45_3); (try clear hcz47_0); (try clear hcz47_1); (try clear hcz47_2); (try clear hcz47_3); (try clear hfz10_0); (try clear hfz10_1); (try clear hfz10_2); (try clear hfz10_3); (try clear hfz15_0); (try clear hfz15_1); (try clear hfz15_2); (try clear hfz15_3); (try clear hfz22_0); (try clear hfz22_1); (try clear hfz22_2); (try clear hfz22_3); (try clear hfz24_0); (try clear hfz24_1); (try clear hfz24_2); (try clear hfz24_3); (try clear hfz29_0); (try clear hfz29_1); (try clear hfz29_2); (try clear hfz29_3); (try clear hfz37_0); (try clear hfz37_1); (try clear hfz37_2); (try clear hfz37_3); (try clear hfz40_0); (try clear hfz40_1); (try clear hfz40_2); (try clear hfz40_3); (try clear hfz42_0); (try clear hfz42_1); (try clear hfz42_2); (try clear hfz42_3); (try clear hfz45_0); (try clear hfz45_1); (try clear hfz45_2); (try clear hfz45_3); (try clear hfz47_0); (try clear hfz47_1); (try clear hfz47_2); (try clear hfz47_3); (try clear hx34_0); (try clear p2); (try clear p3); (try clear p34); (try clear q3); (try clear q34)
       obtain ⟨x8_3, rfl, HA, HK3, HO_1470001, HO_1470002, HO_1470003, BK1457, BK1458, BK1469, HB⟩ := hrel
       cases gk with
       | zero => exact absurd HA.out (by simp [spec_GroupJoin.l0])
       | succ k3 =>
        have H := HA.out
        clear HA
        simp only [spec_GroupJoin.l0] at H
        have HC49 := Aside0.mk H
        clear H
        go_upto_region 10 with (fail)
        go_cut [53] (fun v53 wc => ∃ (kq : Nat) (x53_48 : Bool), v53 = .bool x53_48 ∧ Aside0 (spec_GroupJoin.j3 kq a1 a2 x8_3 x53_48 a0_0 l0_1 l0_2 l0_3 t1459 x1470001_25 x1470002_25 x1470003_25 = some (r1, r2, r3, r4)) ∧ Aside0 (kq ≤ k3) ∧ Aside0 (Kd.R (Kd.int .i64) 3 wc w.heap.size (fun k_ => some k_ ≠ (u1470002 : Value).ownBlock ∧ some k_ ≠ (u1470003 : Value).ownBlock) u1470001 x1470001_25) ∧ Aside0 (Kd.R (Kd.int .i64) 3 wc w.heap.size (fun k_ => some k_ ≠ (u1470001 : Value).ownBlock ∧ some k_ ≠ (u1470003 : Value).ownBlock) u1470002 x1470002_25) ∧ Aside0 (Kd.R (Kd.int .i64) 3 wc w.heap.size (fun k_ => some k_ ≠ (u1470001 : Value).ownBlock ∧ some k_ ≠ (u1470002 : Value).ownBlock) u1470003 x1470003_25) ∧ Aside0 (wc.heap[gb1457]? = some (.cells #[.int .i64 a0_0, (.slice A0_1 l0_1.length c0_1), (.slice A0_2 l0_2.length c0_2), (.slice A0_3 l0_3.length c0_3)] 26 (0, 0))) ∧ Aside0 (wc.heap[gb1458]? = some (.cells #[.int .i64 x1459000_25, (.slice none 0 0), (.slice none 0 0), (.slice none 0 0)] 26 (0, 0))) ∧ Aside0 (wc.heap[gb1469]? = some (.cells #[.int .i64 t1459, u1470001, u1470002, u1470003] 26 (0, 0))) ∧ Aside0 (Below w.heap.size w wc))
        case first =>
         have H := HC49.out
         clear HC49
         by_cases c50 : x8_3 < (l0_1.length : Int)
         ·
          rw [if_pos c50] at H
          have c50b0 : decide (x8_3 < (l0_1.length : Int)) = true := decide_eq_true c50
          clear c50
          (first | rw [c50b0] | (simp only [i64_w, i32_w]; rw [c50b0]) | rw [c50b4] | rw [c50b3] | skip)
          by_cases c51 : x8_3 < (l0_2.length : Int)
          ·
           rw [if_pos c51] at H
           have c51b0 : decide (x8_3 < (l0_2.length : Int)) = true := decide_eq_true c51
           clear c51
           by_cases c52 : 0 ≤ x8_3
           ·
            rw [if_pos c52] at H
            have c52b0 : decide (0 ≤ x8_3) = true := decide_eq_true c52
            clear c52
            have H' := Aside0.mk H
            clear H
            have hnb53 := NB1457_1458.out
            have hnc53 := NB1458_1457.out
            have hnb54 := NB1457_1469.out
            have hnc54 := NB1469_1457.out
            have hcz55_0 : wr.cell? ⟨gb1457, 0, none⟩ = some (.int .i64 a0_0) := (blk_cell BK1457.out 0).trans rfl
            have hcz55_1 : wr.cell? ⟨gb1457, 1, none⟩ = some (.slice A0_1 l0_1.length c0_1) := (blk_cell BK1457.out 1).trans rfl
            have hcz55_2 : wr.cell? ⟨gb1457, 2, none⟩ = some (.slice A0_2 l0_2.length c0_2) := (blk_cell BK1457.out 2).trans rfl
            have hcz55_3 : wr.cell? ⟨gb1457, 3, none⟩ = some (.slice A0_3 l0_3.length c0_3) := (blk_cell BK1457.out 3).trans rfl
            have hfz55_0 := blk_frozen BK1457.out 0
            have hfz55_1 := blk_frozen BK1457.out 1
            have hfz55_2 := blk_frozen BK1457.out 2
            have hfz55_3 := blk_frozen BK1457.out 3
            have p1473 : 0 ≤ (x8_3 : Int) := of_decide_eq_true (by first | (with_reducible assumption) | assumption)
            have q1473 : x8_3 < (l0_1.length : Int) := of_decide_eq_true (by first | (with_reducible assumption) | assumption)
            obtain ⟨ad1473, e1473, hx1473_0⟩ := Kd.at_int HR0_1.out x8_3 p1473 q1473
            cases e1473
            replace hx1473_0 := (HB.out.cell (World.block_lt_of_cell? w _ hx1473_0)).trans hx1473_0
            replace p1473 := eq_true p1473
            replace q1473 := eq_true q1473
            go_wp2
            go_meet
            case rel => exact ⟨_, (decide ((rd l0_1 x8_3) < a1)), (by first | rfl | (simp; done) | (simp [*]; done)), H', ⟨by have := HJ5.out; have := HJ25.out; have := HK3.out; first | omega | exact Nat.le_refl _⟩, ⟨rq_ HO_1470001.out⟩, ⟨rq_ HO_1470002.out⟩, ⟨rq_ HO_1470003.out⟩, ⟨bq_ BK1457.out⟩, ⟨bq_ BK1458.out⟩, ⟨bq_ BK1469.out⟩, ⟨hb_ HB.out⟩⟩
           ·
            rw [if_neg c52] at H
            exact absurd H (by simp)
          ·
           rw [if_neg c51] at H
           have c51b0 : decide (x8_3 < (l0_2.length : Int)) = false := decide_eq_false c51
           clear c51
           have H' := Aside0.mk H
           clear H
           have hnb56 := NB1457_1458.out
           have hnc56 := NB1458_1457.out
           have hnb57 := NB1457_1469.out
           have hnc57 := NB1469_1457.out
           have hcz58_0 : wr.cell? ⟨gb1457, 0, none⟩ = some (.int .i64 a0_0) := (blk_cell BK1457.out 0).trans rfl
           have hcz58_1 : wr.cell? ⟨gb1457, 1, none⟩ = some (.slice A0_1 l0_1.length c0_1) := (blk_cell BK1457.out 1).trans rfl
           have hcz58_2 : wr.cell? ⟨gb1457, 2, none⟩ = some (.slice A0_2 l0_2.length c0_2) := (blk_cell BK1457.out 2).trans rfl
           have hcz58_3 : wr.cell? ⟨gb1457, 3, none⟩ = some (.slice A0_3 l0_3.length c0_3) := (blk_cell BK1457.out 3).trans rfl
           have hfz58_0 := blk_frozen BK1457.out 0
           have hfz58_1 := blk_frozen BK1457.out 1
           have hfz58_2 := blk_frozen BK1457.out 2
           have hfz58_3 := blk_frozen BK1457.out 3
           go_wp2
           go_meet
           case rel => exact ⟨_, (false), (by first | rfl | (simp; done) | (simp [*]; done)), H', ⟨by have := HJ5.out; have := HJ25.out; have := HK3.out; first | omega | exact Nat.le_refl _⟩, ⟨rq_ HO_1470001.out⟩, ⟨rq_ HO_1470002.out⟩, ⟨rq_ HO_1470003.out⟩, ⟨bq_ BK1457.out⟩, ⟨bq_ BK1458.out⟩, ⟨bq_ BK1469.out⟩, ⟨hb_ HB.out⟩⟩
         ·
          rw [if_neg c50] at H
          have c50b0 : decide (x8_3 < (l0_1.length : Int)) = false := decide_eq_false c50
          clear c50
          (first | rw [c50b0] | (simp only [i64_w, i32_w]; rw [c50b0]) | rw [c50b4] | rw [c50b3] | skip)
          have H' := Aside0.mk H
          clear H
          have hnb59 := NB1457_1458.out
          have hnc59 := NB1458_1457.out
          have hnb60 := NB1457_1469.out
          have hnc60 := NB1469_1457.out
          have hcz61_0 : wr.cell? ⟨gb1457, 0, none⟩ = some (.int .i64 a0_0) := (blk_cell BK1457.out 0).trans rfl
          have hcz61_1 : wr.cell? ⟨gb1457, 1, none⟩ = some (.slice A0_1 l0_1.length c0_1) := (blk_cell BK1457.out 1).trans rfl
          have hcz61_2 : wr.cell? ⟨gb1457, 2, none⟩ = some (.slice A0_2 l0_2.length c0_2) := (blk_cell BK1457.out 2).trans rfl
          have hcz61_3 : wr.cell? ⟨gb1457, 3, none⟩ = some (.slice A0_3 l0_3.length c0_3) := (blk_cell BK1457.out 3).trans rfl
          have hfz61_0 := blk_frozen BK1457.out 0
          have hfz61_1 := blk_frozen BK1457.out 1
          have hfz61_2 := blk_frozen BK1457.out 2
          have hfz61_3 := blk_frozen BK1457.out 3
          go_wp2
          go_meet
          case rel => exact ⟨_, (false), (by first | rfl | (simp; done) | (simp [*]; done)), H', ⟨by have := HJ5.out; have := HJ25.out; have := HK3.out; first | omega | exact Nat.le_refl _⟩, ⟨rq_ HO_1470001.out⟩, ⟨rq_ HO_1470002.out⟩, ⟨rq_ HO_1470003.out⟩, ⟨bq_ BK1457.out⟩, ⟨bq_ BK1458.out⟩, ⟨bq_ BK1469.out⟩, ⟨hb_ HB.out⟩⟩
        case rest =>
         clear HC49
         (try clear c1); (try clear p1); (try clear q1); (try clear hx1); (try clear c2); (try clear p2); (try clear c3); (try clear p3); (try clear q3); (try clear hx3); (try clear hf3); (try clear c4); (try clear c5); (try clear c6); (try clear c8); (try clear c9); (try clear c13); (try clear c14); (try clear p14); (try clear q14); (try clear hx14); (try clear c17); (try clear c19); (try clear c20); (try clear c21); (try clear c23); (try clear c27); (try clear c28); (try clear c31); (try clear c31b0); (try clear c32); (try clear c32b0); (try clear c33); (try clear c33b0); (try clear p34); (try clear q34); (try clear hx34); (try clear hf34); (try clear c35); (try clear c36); (try clear c41); (try clear c43); (try clear c44); (try clear c46); (try clear c50); (try clear c50b0); (try clear c51); (try clear c51b0); (try clear c52); (try clear c52b0); (try clear c53); (try clear c54); (try clear c56); (try clear c57); (try clear c59); (try clear c60); (try clear hcz10_0); (try clear hcz10_1); (try clear hcz10_2); (try clear hcz10_3); (try clear hcz15_0); (try clear hcz15_1); (try clear hcz15_2); (try clear hcz15_3); (try clear hcz22_0); (try clear hcz22_1); (try clear hcz22_2); (try clear hcz22_3); (try clear hcz24_0); (try clear hcz24_1); (try clear hcz24_2); (try clear hcz24_3); (try clear hcz29_0); (try clear hcz29_1); (try clear hcz29_2); (try clear hcz29_3); (try clear hcz37_0); (try clear hcz37_1); (try clear hcz37_2); (try clear hcz37_3); (try clear hcz40_0); (try clear hcz40_1); (try clear hcz40_2); (try clear hcz40_3); (try clear hcz42_0); (try clear hcz42_1); (try clear hcz42_2); (try clear hcz42_3); (try clear hcz45_0); (try clear hcz45_1); (try clear hcz45_2); (try clear hcz45_3); (try clear hcz47_0); (try clear hcz47_1); (try clear hcz47_2); (try clear hcz47_3); (try clear hcz55_0); (try clear hcz55_1); (try clear hcz55_2); (try clear hcz55_3); (try clear hcz58_0); (try clear hcz58_1); (try clear hcz58_2); (try clear hcz58_3); (try clear hcz61_0); (try clear hcz61_1); (try clear hcz61_2); (try clear hcz61_3); (try clear hfz10_0); (try clear hfz10_1); (try clear hfz10_2); (try clear hfz10_3); (try clear hfz15_0); (try clear hfz15_1); (try clear hfz15_2); (try clear hfz15_3); (try clear hfz22_0); (try clear hfz22_1); (try clear hfz22_2); (try clear hfz22_3); (try clear hfz24_0); (try clear hfz24_1); (try clear hfz24_2); (try clear hfz24_3); (try clear hfz29_0); (try clear hfz29_1); (try clear hfz29_2); (try clear hfz29_3); (try clear hfz37_0); (try clear hfz37_1); (try clear hfz37_2); (try clear hfz37_3); (try clear hfz40_0); (try clear hfz40_1); (try clear hfz40_2); (try clear hfz40_3); (try clear hfz42_0); (try clear hfz42_1); (try clear hfz42_2); (try clear hfz42_3); (try clear hfz45_0); (try clear hfz45_1); (try clear hfz45_2); (try clear hfz45_3); (try clear hfz47_0); (try clear hfz47_1); (try clear hfz47_2); (try clear hfz47_3); (try clear hfz55_0); (try clear hfz55_1); (try clear hfz55_2); (try clear hfz55_3); (try clear hfz58_0); (try clear hfz58_1); (try clear hfz58_2); (try clear hfz58_3); (try clear hfz61_0); (try clear hfz61_1); (try clear hfz61_2); (try clear hfz61_3); (try clear hx1473_0); (try clear hx34_0); (try clear p1473); (try clear p2); (try clear p3); (try clear p34); (try clear q1473); (try clear q3); (try clear q34)
         obtain ⟨kq, x53_48, rfl, HA, HJ48, HO_1470001, HO_1470002, HO_1470003, BK1457, BK1458, BK1469, HB⟩ := hcut
         cases kq with
         | zero => exact absurd HA.out (by simp [spec_GroupJoin.j3])
         | succ kj48 =>
          have H := HA.out
          clear HA
          simp only [spec_GroupJoin.j3] at H
          by_cases c62 : x53_48 = true
          ·
           subst c62
           have H1 : (spec_GroupJoin.l0 kj48 a1 a2 (wrap64 (x8_3 + 1)) a0_0 l0_1 l0_2 l0_3 t1459 x1470001_25 x1470002_25 x1470003_25) = some (r1, r2, r3, r4) := by rw [if_pos rfl] at H; exact H
           clear H
           have H := H1
           clear H1
           have H' := Aside0.mk H
           clear H
           go_wp2
           go_roundg kj48
           case measure => have := HJ5.out; have := HJ25.out; have := HK3.out; have := HJ48.out; omega
           case rel => exact ⟨(wrap64 (x8_3 + 1)), (by first | rfl | (simp; done) | (simp [*]; done)), H', ⟨by have := HJ5.out; have := HJ25.out; have := HK3.out; have := HJ48.out; omega⟩, ⟨rq_ HO_1470001.out⟩, ⟨rq_ HO_1470002.out⟩, ⟨rq_ HO_1470003.out⟩, ⟨bq_ BK1457.out⟩, ⟨bq_ BK1458.out⟩, ⟨bq_ BK1469.out⟩, ⟨hb_ HB.out⟩⟩
          ·
           replace c62 := Bool.eq_false_iff.mpr c62
           subst c62
           have H1 : (spec_GroupJoin.j4 kj48 a1 a2 x8_3 a0_0 l0_1 l0_2 l0_3 t1459 x1470001_25 x1470002_25 x1470003_25) = some (r1, r2, r3, r4) := by rw [if_neg (show ¬ (false = true) by decide)] at H; exact H
           clear H
           have H := H1
           clear H1
           have H' := Aside0.mk H
           clear H
           go_wp2
           go_meet
           case rel => exact ⟨_, (x8_3), (by first | rfl | (simp; done) | (simp [*]; done)), H', ⟨by have := HJ5.out; have := HJ25.out; have := HK3.out; have := HJ48.out; first | omega | exact Nat.le_refl _⟩, ⟨rq_ HO_1470001.out⟩, ⟨rq_ HO_1470002.out⟩, ⟨rq_ HO_1470003.out⟩, ⟨bq_ BK1457.out⟩, ⟨bq_ BK1458.out⟩, ⟨bq_ BK1469.out⟩, ⟨hb_ HB.out⟩⟩
     case rest =>
      clear HC48
      (try clear c1); (try clear p1); (try clear q1); (try clear hx1); (try clear c2); (try clear p2); (try clear c3); (try clear p3); (try clear q3); (try clear hx3); (try clear hf3); (try clear c4); (try clear c5); (try clear c6); (try clear p6); (try clear c8); (try clear c9); (try clear c13); (try clear c14); (try clear p14); (try clear q14); (try clear hx14); (try clear c17); (try clear c19); (try clear c20); (try clear c21); (try clear c23); (try clear c27); (try clear c28); (try clear c31); (try clear c31b0); (try clear c32); (try clear c32b0); (try clear c33); (try clear c33b0); (try clear p34); (try clear q34); (try clear hx34); (try clear hf34); (try clear c35); (try clear c36); (try clear c41); (try clear c43); (try clear c44); (try clear c46); (try clear c50); (try clear c50b0); (try clear c51); (try clear c51b0); (try clear c52); (try clear c52b0); (try clear c53); (try clear c54); (try clear c56); (try clear c57); (try clear c59); (try clear c60); (try clear c62); (try clear hcz10_0); (try clear hcz10_1); (try clear hcz10_2); (try clear hcz10_3); (try clear hcz15_0); (try clear hcz15_1); (try clear hcz15_2); (try clear hcz15_3); (try clear hcz22_0); (try clear hcz22_1); (try clear hcz22_2); (try clear hcz22_3); (try clear hcz24_0); (try clear hcz24_1); (try clear hcz24_2); (try clear hcz24_3); (try clear hcz29_0); (try clear hcz29_1); (try clear hcz29_2); (try clear hcz29_3); (try clear hcz37_0); (try clear hcz37_1); (try clear hcz37_2); (try clear hcz37_3); (try clear hcz40_0); (try clear hcz40_1); (try clear hcz40_2); (try clear hcz40_3); (try clear hcz42_0); (try clear hcz42_1); (try clear hcz42_2); (try clear hcz42_3); (try clear hcz45_0); (try clear hcz45_1); (try clear hcz45_2); (try clear hcz45_3); (try clear hcz47_0); (try clear hcz47_1); (try clear hcz47_2); (try clear hcz47_3); (try clear hcz55_0); (try clear hcz55_1); (try clear hcz55_2); (try clear hcz55_3); (try clear hcz58_0); (try clear hcz58_1); (try clear hcz58_2); (try clear hcz58_3); (try clear hcz61_0); (try clear hcz61_1); (try clear hcz61_2); (try clear hcz61_3); (try clear hfz10_0); (try clear hfz10_1); (try clear hfz10_2); (try clear hfz10_3); (try clear hfz15_0); (try clear hfz15_1); (try clear hfz15_2); (try clear hfz15_3); (try clear hfz22_0); (try clear hfz22_1); (try clear hfz22_2); (try clear hfz22_3); (try clear hfz24_0); (try clear hfz24_1); (try clear hfz24_2); (try clear hfz24_3); (try clear hfz29_0); (try clear hfz29_1); (try clear hfz29_2); (try clear hfz29_3); (try clear hfz37_0); (try clear hfz37_1); (try clear hfz37_2); (try clear hfz37_3); (try clear hfz40_0); (try clear hfz40_1); (try clear hfz40_2); (try clear hfz40_3); (try clear hfz42_0); (try clear hfz42_1); (try clear hfz42_2); (try clear hfz42_3); (try clear hfz45_0); (try clear hfz45_1); (try clear hfz45_2); (try clear hfz45_3); (try clear hfz47_0); (try clear hfz47_1); (try clear hfz47_2); (try clear hfz47_3); (try clear hfz55_0); (try clear hfz55_1); (try clear hfz55_2); (try clear hfz55_3); (try clear hfz58_0); (try clear hfz58_1); (try clear hfz58_2); (try clear hfz58_3); (try clear hfz61_0); (try clear hfz61_1); (try clear hfz61_2); (try clear hfz61_3); (try clear hx1473_0); (try clear hx34_0); (try clear p1); (try clear p14); (try clear p1473); (try clear p2); (try clear p3); (try clear p34); (try clear q1); (try clear q14); (try clear q1473); (try clear q3); (try clear q34)
      obtain ⟨kq, x8_47, rfl, HA, HJ47, HO_1470001, HO_1470002, HO_1470003, BK1457, BK1458, BK1469, HB⟩ := hcut
      cases kq with
      | zero => exact absurd HA.out (by simp [spec_GroupJoin.j4])
      | succ kj47 =>
       have H := HA.out
       clear HA
       simp only [spec_GroupJoin.j4] at H
       obtain ⟨y1474, hy1474⟩ : ∃ y_ : List Int, y_ = (([] : List Int)) := ⟨_, rfl⟩
       replace H : (if 0 ≤ x8_47 then (if x8_47 ≤ (l0_1.length : Int) then (if y1474.length + (l0_1.take (x8_47 : Int).toNat).length < 17592186044416 then ((some (y1474 ++ (l0_1.take (x8_47 : Int).toNat) : List Int)).bind fun y1478 => (if y1478.length < 17592186044416 then ((some (y1478 ++ [a1] : List Int)).bind fun y1481 => (if y1481.length + (l0_1.drop (x8_47 : Int).toNat).length < 17592186044416 then ((some (([] : List Int) : List Int)).bind fun y1488 => (if x8_47 ≤ (l0_2.length : Int) then (if y1488.length + (l0_2.take (x8_47 : Int).toNat).length < 17592186044416 then ((some (y1488 ++ (l0_2.take (x8_47 : Int).toNat) : List Int)).bind fun y1492 => (if y1492.length < 17592186044416 then ((some (y1492 ++ [a2] : List Int)).bind fun y1495 => (if y1495.length + (l0_2.drop (x8_47 : Int).toNat).length < 17592186044416 then ((spec_l5Up.f a0_0).bind fun t1502 => (some (t1502, (y1481 ++ (l0_1.drop (x8_47 : Int).toNat)), (y1495 ++ (l0_2.drop (x8_47 : Int).toNat)), x1470003_25))) else (none))) else (none))) else (none)) else (none))) else (none))) else (none))) else (none)) else (none)) else (none)) = some (r1, r2, r3, r4) := by first | (rw [hy1474]; with_reducible exact H) | (have H2_ := (Option.bind_some _ _).symm.trans H; rw [hy1474]; with_reducible exact H2_) | (have H2_ := (Option.bind_some _ _).symm.trans H; with_reducible exact H2_) | with_reducible exact H | (rw [hy1474]; exact H) | exact H
       have Ny1474 := Aside0.mk hy1474
       clear hy1474
       by_cases c63 : 0 ≤ x8_47
       ·
        rw [if_pos c63] at H
        have c63b0 := eq_true c63
        have c63b1 : decide (0 ≤ x8_47) = true := decide_eq_true c63
        clear c63
        by_cases c64 : x8_47 ≤ (l0_1.length : Int)
        ·
         rw [if_pos c64] at H
         have c64b0 := eq_true c64
         have c64b1 : decide (x8_47 ≤ (l0_1.length : Int)) = true := decide_eq_true c64
         clear c64
         by_cases c65 : y1474.length + (l0_1.take (x8_47 : Int).toNat).length < 17592186044416
         ·
          rw [if_pos c65] at H
          have LMc65 := Aside0.mk c65
          clear c65
          obtain ⟨y1478, hy1478⟩ : ∃ y_ : List Int, y_ = (y1474 ++ (l0_1.take (x8_47 : Int).toNat)) := ⟨_, rfl⟩
          replace H : (if y1478.length < 17592186044416 then ((some (y1478 ++ [a1] : List Int)).bind fun y1481 => (if y1481.length + (l0_1.drop (x8_47 : Int).toNat).length < 17592186044416 then ((some (([] : List Int) : List Int)).bind fun y1488 => (if x8_47 ≤ (l0_2.length : Int) then (if y1488.length + (l0_2.take (x8_47 : Int).toNat).length < 17592186044416 then ((some (y1488 ++ (l0_2.take (x8_47 : Int).toNat) : List Int)).bind fun y1492 => (if y1492.length < 17592186044416 then ((some (y1492 ++ [a2] : List Int)).bind fun y1495 => (if y1495.length + (l0_2.drop (x8_47 : Int).toNat).length < 17592186044416 then ((spec_l5Up.f a0_0).bind fun t1502 => (some (t1502, (y1481 ++ (l0_1.drop (x8_47 : Int).toNat)), (y1495 ++ (l0_2.drop (x8_47 : Int).toNat)), x1470003_25))) else (none))) else (none))) else (none)) else (none))) else (none))) else (none)) = some (r1, r2, r3, r4) := by first | (rw [hy1478]; with_reducible exact H) | (have H2_ := (Option.bind_some _ _).symm.trans H; rw [hy1478]; with_reducible exact H2_) | (have H2_ := (Option.bind_some _ _).symm.trans H; with_reducible exact H2_) | with_reducible exact H | (rw [hy1478]; exact H) | exact H
          have Ny1478 := Aside0.mk hy1478
          clear hy1478
          by_cases c66 : y1478.length < 17592186044416
          ·
           rw [if_pos c66] at H
           have LMc66 := Aside0.mk c66
           clear c66
           obtain ⟨y1481, hy1481⟩ : ∃ y_ : List Int, y_ = (y1478 ++ [a1]) := ⟨_, rfl⟩
           replace H : (if y1481.length + (l0_1.drop (x8_47 : Int).toNat).length < 17592186044416 then ((some (([] : List Int) : List Int)).bind fun y1488 => (if x8_47 ≤ (l0_2.length : Int) then (if y1488.length + (l0_2.take (x8_47 : Int).toNat).length < 17592186044416 then ((some (y1488 ++ (l0_2.take (x8_47 : Int).toNat) : List Int)).bind fun y1492 => (if y1492.length < 17592186044416 then ((some (y1492 ++ [a2] : List Int)).bind fun y1495 => (if y1495.length + (l0_2.drop (x8_47 : Int).toNat).length < 17592186044416 then ((spec_l5Up.f a0_0).bind fun t1502 => (some (t1502, (y1481 ++ (l0_1.drop (x8_47 : Int).toNat)), (y1495 ++ (l0_2.drop (x8_47 : Int).toNat)), x1470003_25))) else (none))) else (none))) else (none)) else (none))) else (none)) = some (r1, r2, r3, r4) := by first | (rw [hy1481]; with_reducible exact H) | (have H2_ := (Option.bind_some _ _).symm.trans H; rw [hy1481]; with_reducible exact H2_) | (have H2_ := (Option.bind_some _ _).symm.trans H; with_reducible exact H2_) | with_reducible exact H | (rw [hy1481]; exact H) | exact H
           have Ny1481 := Aside0.mk hy1481
           clear hy1481
           have c67b0 := eq_true (of_decide_eq_true (by first | (with_reducible assumption) | assumption) : 0 ≤ x8_47)
           have c68b0 := eq_true (of_decide_eq_true (by first | (with_reducible assumption) | assumption) : x8_47 ≤ (l0_1.length : Int))
           by_cases c69 : y1481.length + (l0_1.drop (x8_47 : Int).toNat).length < 17592186044416
           ·
            rw [if_pos c69] at H
            have LMc69 := Aside0.mk c69
            clear c69
            obtain ⟨y1485, hy1485⟩ : ∃ y_ : List Int, y_ = (y1481 ++ (l0_1.drop (x8_47 : Int).toNat)) := ⟨_, rfl⟩
            replace H : ((some (([] : List Int) : List Int)).bind fun y1488 => (if x8_47 ≤ (l0_2.length : Int) then (if y1488.length + (l0_2.take (x8_47 : Int).toNat).length < 17592186044416 then ((some (y1488 ++ (l0_2.take (x8_47 : Int).toNat) : List Int)).bind fun y1492 => (if y1492.length < 17592186044416 then ((some (y1492 ++ [a2] : List Int)).bind fun y1495 => (if y1495.length + (l0_2.drop (x8_47 : Int).toNat).length < 17592186044416 then ((spec_l5Up.f a0_0).bind fun t1502 => (some (t1502, y1485, (y1495 ++ (l0_2.drop (x8_47 : Int).toNat)), x1470003_25))) else (none))) else (none))) else (none)) else (none))) = some (r1, r2, r3, r4) := by first | (rw [hy1485]; with_reducible exact H) | (have H2_ := (Option.bind_some _ _).symm.trans H; rw [hy1485]; with_reducible exact H2_) | (have H2_ := (Option.bind_some _ _).symm.trans H; with_reducible exact H2_) | with_reducible exact H | (rw [hy1485]; exact H) | exact H
            have Ny1485 := Aside0.mk hy1485
            clear hy1485
            obtain ⟨y1488, hy1488⟩ : ∃ y_ : List Int, y_ = (([] : List Int)) := ⟨_, rfl⟩
            replace H : (if x8_47 ≤ (l0_2.length : Int) then (if y1488.length + (l0_2.take (x8_47 : Int).toNat).length < 17592186044416 then ((some (y1488 ++ (l0_2.take (x8_47 : Int).toNat) : List Int)).bind fun y1492 => (if y1492.length < 17592186044416 then ((some (y1492 ++ [a2] : List Int)).bind fun y1495 => (if y1495.length + (l0_2.drop (x8_47 : Int).toNat).length < 17592186044416 then ((spec_l5Up.f a0_0).bind fun t1502 => (some (t1502, y1485, (y1495 ++ (l0_2.drop (x8_47 : Int).toNat)), x1470003_25))) else (none))) else (none))) else (none)) else (none)) = some (r1, r2, r3, r4) := by first | (rw [hy1488]; with_reducible exact H) | (have H2_ := (Option.bind_some _ _).symm.trans H; rw [hy1488]; with_reducible exact H2_) | (have H2_ := (Option.bind_some _ _).symm.trans H; with_reducible exact H2_) | with_reducible exact H | (rw [hy1488]; exact H) | exact H
            have Ny1488 := Aside0.mk hy1488
            clear hy1488
            have c70b0 := eq_true (of_decide_eq_true (by first | (with_reducible assumption) | assumption) : 0 ≤ x8_47)
            by_cases c71 : x8_47 ≤ (l0_2.length : Int)
            ·
             rw [if_pos c71] at H
             have c71b0 := eq_true c71
             have c71b1 : decide (x8_47 ≤ (l0_2.length : Int)) = true := decide_eq_true c71
             clear c71
             by_cases c72 : y1488.length + (l0_2.take (x8_47 : Int).toNat).length < 17592186044416
             ·
              rw [if_pos c72] at H
              have LMc72 := Aside0.mk c72
              clear c72
              obtain ⟨y1492, hy1492⟩ : ∃ y_ : List Int, y_ = (y1488 ++ (l0_2.take (x8_47 : Int).toNat)) := ⟨_, rfl⟩
              replace H : (if y1492.length < 17592186044416 then ((some (y1492 ++ [a2] : List Int)).bind fun y1495 => (if y1495.length + (l0_2.drop (x8_47 : Int).toNat).length < 17592186044416 then ((spec_l5Up.f a0_0).bind fun t1502 => (some (t1502, y1485, (y1495 ++ (l0_2.drop (x8_47 : Int).toNat)), x1470003_25))) else (none))) else (none)) = some (r1, r2, r3, r4) := by first | (rw [hy1492]; with_reducible exact H) | (have H2_ := (Option.bind_some _ _).symm.trans H; rw [hy1492]; with_reducible exact H2_) | (have H2_ := (Option.bind_some _ _).symm.trans H; with_reducible exact H2_) | with_reducible exact H | (rw [hy1492]; exact H) | exact H
              have Ny1492 := Aside0.mk hy1492
              clear hy1492
              by_cases c73 : y1492.length < 17592186044416
              ·
               rw [if_pos c73] at H
               have LMc73 := Aside0.mk c73
               clear c73
               obtain ⟨y1495, hy1495⟩ : ∃ y_ : List Int, y_ = (y1492 ++ [a2]) := ⟨_, rfl⟩
               replace H : (if y1495.length + (l0_2.drop (x8_47 : Int).toNat).length < 17592186044416 then ((spec_l5Up.f a0_0).bind fun t1502 => (some (t1502, y1485, (y1495 ++ (l0_2.drop (x8_47 : Int).toNat)), x1470003_25))) else (none)) = some (r1, r2, r3, r4) := by first | (rw [hy1495]; with_reducible exact H) | (have H2_ := (Option.bind_some _ _).symm.trans H; rw [hy1495]; with_reducible exact H2_) | (have H2_ := (Option.bind_some _ _).symm.trans H; with_reducible exact H2_) | with_reducible exact H | (rw [hy1495]; exact H) | exact H
               have Ny1495 := Aside0.mk hy1495
               clear hy1495
               have c74b0 := eq_true (of_decide_eq_true (by first | (with_reducible assumption) | assumption) : 0 ≤ x8_47)
               have c75b0 := eq_true (of_decide_eq_true (by first | (with_reducible assumption) | assumption) : x8_47 ≤ (l0_2.length : Int))
               by_cases c76 : y1495.length + (l0_2.drop (x8_47 : Int).toNat).length < 17592186044416
               ·
                rw [if_pos c76] at H
                have LMc76 := Aside0.mk c76
                clear c76
                obtain ⟨y1499, hy1499⟩ : ∃ y_ : List Int, y_ = (y1495 ++ (l0_2.drop (x8_47 : Int).toNat)) := ⟨_, rfl⟩
                replace H : ((spec_l5Up.f a0_0).bind fun t1502 => (some (t1502, y1485, y1499, x1470003_25))) = some (r1, r2, r3, r4) := by first | (rw [hy1499]; with_reducible exact H) | (have H2_ := (Option.bind_some _ _).symm.trans H; rw [hy1499]; with_reducible exact H2_) | (have H2_ := (Option.bind_some _ _).symm.trans H; with_reducible exact H2_) | with_reducible exact H | (rw [hy1499]; exact H) | exact H
                have Ny1499 := Aside0.mk hy1499
                clear hy1499
                replace H := Option.bind_eq_some_iff.mp H
                obtain ⟨t1502, A770, H⟩ := H
                replace H : (some (t1502, y1485, y1499, x1470003_25)) = some (r1, r2, r3, r4) := H
                have A77 := Aside0.mk A770
                clear A770
                simp only [Option.some.injEq, Prod.mk.injEq] at H
                obtain ⟨rfl, rfl, rfl, rfl⟩ := H
                go_wp2_with (first | ((with_reducible refine gate_dst (N := 56) rfl ?_); (try (refine gate_guard (by rfl) ?_; dsimp only)); refine Kd.R_lit (Kd.int .i64) _ 3 ?hg (N := 56) ?hd (xs := ([] : List Int)) (inner := []) (ok := fun _ => True) (okp := fun _ => True) ?hr ?hp (fun _ hk => hk) trivial (Below.refl _ _) (Nat.le_refl _) (by simp) ?_; (case hd => rfl); (case hg => rfl); (case hr => first | (go_simp; done) | (go_simp; rfl)); (case hp => exact (Reps.none _ _)); intro v1475 w78 ho79 hb hg_ hnew_; clear hg_ hnew_; (first | rw [← Ny1474.out] at ho79 | (simp only [Int.reduceToNat] at ho79; rw [← Ny1474.out] at ho79)); have n0_ := Aside0.mk (Kd.R_elder' (rq_ HO_1470001.out) (Kd.R_base ho79) hb); have n1_ := Aside0.mk (Kd.R_elder' (rq_ HO_1470002.out) (Kd.R_base ho79) hb); have n2_ := Aside0.mk (Kd.R_elder' (rq_ HO_1470003.out) (Kd.R_base ho79) hb); have n3_ := Aside0.mk (Kd.R_lower (Kd.R_new' (Kd.R_new' (Kd.R_new' ho79 (Kd.R_lt (rq_ HO_1470001.out))) (Kd.R_lt (rq_ HO_1470002.out))) (Kd.R_lt (rq_ HO_1470003.out))) (below_size (hb_ HB.out))); have n4_ := Aside0.mk (bb_ BK1457.out hb); have n5_ := Aside0.mk (bb_ BK1458.out hb); have n6_ := Aside0.mk (bb_ BK1469.out hb); have n7_ := Aside0.mk (below_step (hb_ HB.out) hb); clear HO_1470001; clear HO_1470002; clear HO_1470003; clear BK1457; clear BK1458; clear BK1469; clear HB; have HO_1470001 := n0_; have HO_1470002 := n1_; have HO_1470003 := n2_; have HO1476 := n3_; have BK1457 := n4_; have BK1458 := n5_; have BK1469 := n6_; have HB := n7_; clear n0_ n1_ n2_ n3_ n4_ n5_ n6_ n7_; clear hb ho79; have hnb80 := NB1457_1458.out; have hnc80 := NB1458_1457.out; have hnb81 := NB1457_1469.out; have hnc81 := NB1469_1457.out; have hcz82_0 : w78.cell? ⟨gb1457, 0, none⟩ = some (.int .i64 a0_0) := (blk_cell BK1457.out 0).trans rfl; have hcz82_1 : w78.cell? ⟨gb1457, 1, none⟩ = some (.slice A0_1 l0_1.length c0_1) := (blk_cell BK1457.out 1).trans rfl; have hcz82_2 : w78.cell? ⟨gb1457, 2, none⟩ = some (.slice A0_2 l0_2.length c0_2) := (blk_cell BK1457.out 2).trans rfl; have hcz82_3 : w78.cell? ⟨gb1457, 3, none⟩ = some (.slice A0_3 l0_3.length c0_3) := (blk_cell BK1457.out 3).trans rfl; have hfz82_0 := blk_frozen BK1457.out 0; have hfz82_1 := blk_frozen BK1457.out 1; have hfz82_2 := blk_frozen BK1457.out 2; have hfz82_3 := blk_frozen BK1457.out 3; obtain ⟨i083, hi083, _, hsz83, _⟩ := info_parts info3; obtain ⟨hcut83, hA83, hC83⟩ := print_take_of (P := Try.prog) (Value.int .i64) 0 24 3 .i64 Try.underlying24 hi083 hsz83 A0_1 c0_1 l0_1 x8_47 (of_decide_eq_true (by first | (with_reducible assumption) | assumption)) (of_decide_eq_true (by first | (with_reducible assumption) | assumption)) HC0_1.out; have HR1477 := Aside0.mk (Kd.C_of_reads (h1 := fun _ => rfl) (hA83 _ (Kd.reads_of_C HR0_1.out))); have HC1477 := Aside0.mk hC83; clear hA83 hC83 hi083 hsz83) | ((with_reducible refine gate_builtin (b := .append) (xs := #[.tmp 56, .tmp 60]) rfl ?_); (try (refine gate_guard (by rfl) ?_; dsimp only)); at_builtin; refine Kd.R_append_rows (Kd.int .i64) (w0 := w) w.heap.size rfl (.tmp 56) (.tmp 60) 24 3 (.int .i64 0) 8 rfl Try.underlying24 info3 rfl (by decide) (by omega) v1475 y1474 (l0_1.take (x8_47 : Int).toNat) _ _ _ (fun k_ => some k_ ≠ (u1470001 : Value).ownBlock ∧ some k_ ≠ (u1470002 : Value).ownBlock ∧ some k_ ≠ (u1470003 : Value).ownBlock) (fun _ => False) rfl rfl ?aO ?aR (fun _ _ h => h) (fun _ h => h.elim) ?aF ?aB ?aS ?aL ?_; (case aR => first | (rw [← show (l0_1.take (x8_47 : Int).toNat).length = x8_47.toNat from (by rw [List.length_take]; have h_ : (x8_47 : Int) ≤ (l0_1.length : Int) := of_decide_eq_true (by first | (with_reducible assumption) | assumption); omega)]; (repeat (first | exact (Kd.C_below HR1477.out HB.out) | (with_reducible refine Kd.C_alloc ?_ _) | (with_reducible refine Kd.C_drewN ?_ _) | (with_reducible refine Kd.C_drew ?_))); done) | (refine cast (congrArg (fun n_ => ReadsRow _ _ _ _ n_ _) (show (l0_1.take (x8_47 : Int).toNat).length = x8_47.toNat from (by rw [List.length_take]; have h_ : (x8_47 : Int) ≤ (l0_1.length : Int) := of_decide_eq_true (by first | (with_reducible assumption) | assumption); omega))) ?_; (repeat (first | exact (Kd.C_below HR1477.out HB.out) | (with_reducible refine Kd.C_alloc ?_ _) | (with_reducible refine Kd.C_drewN ?_ _) | (with_reducible refine Kd.C_drew ?_))); done) | (repeat (first | exact (Kd.C_below HR1477.out HB.out) | (with_reducible refine Kd.C_alloc ?_ _) | (with_reducible refine Kd.C_drewN ?_ _) | (with_reducible refine Kd.C_drew ?_)))); (case aB => exact (hb_ HB.out)); (case aF => exact (fun k_ hk => ⟨Kd.fresh' (Kd.R_lt (rq_ HO_1470001.out)) k_ hk, Kd.fresh' (Kd.R_lt (rq_ HO_1470002.out)) k_ hk, Kd.fresh' (Kd.R_lt (rq_ HO_1470003.out)) k_ hk⟩)); (case aO => exact (rm_ HO1476.out)); (case aS => exact (below_size (hb_ HB.out))); (case aL => have := LMc65.out; have hlx_ := (show (l0_1.take (x8_47 : Int).toNat).length = x8_47.toNat from (by rw [List.length_take]; have h_ : (x8_47 : Int) ≤ (l0_1.length : Int) := of_decide_eq_true (by first | (with_reducible assumption) | assumption); omega)); omega); intro v1479 w84 ho hb hg hat; rw [← Ny1478.out] at ho; have n0_ := Aside0.mk (Kd.R_after (ok := (fun k_ => some k_ ≠ (u1470002 : Value).ownBlock ∧ some k_ ≠ (u1470003 : Value).ownBlock)) (rq_ HO_1470001.out) hg hat); have n1_ := Aside0.mk (Kd.R_after (ok := (fun k_ => some k_ ≠ (u1470001 : Value).ownBlock ∧ some k_ ≠ (u1470003 : Value).ownBlock)) (rq_ HO_1470002.out) hg hat); have n2_ := Aside0.mk (Kd.R_after (ok := (fun k_ => some k_ ≠ (u1470001 : Value).ownBlock ∧ some k_ ≠ (u1470002 : Value).ownBlock)) (rq_ HO_1470003.out) hg hat); have n3_ := Aside0.mk (blk_grown (g := gb1457) (o := .cells #[.int .i64 a0_0, .slice A0_1 l0_1.length c0_1, .slice A0_2 l0_2.length c0_2, .slice A0_3 l0_3.length c0_3] 26 (0, 0)) (bq_ BK1457.out) hg (Kd.R_ne HO1476.out BK1457.out (by decide))); have n4_ := Aside0.mk (blk_grown (g := gb1458) (o := .cells #[.int .i64 x1459000_25, .slice none 0 0, .slice none 0 0, .slice none 0 0] 26 (0, 0)) (bq_ BK1458.out) hg (Kd.R_ne HO1476.out BK1458.out (by decide))); have n5_ := Aside0.mk (blk_grown (g := gb1469) (o := .cells #[.int .i64 t1459, u1470001, u1470002, u1470003] 26 (0, 0)) (bq_ BK1469.out) hg (Kd.R_ne HO1476.out BK1469.out (by decide))); have n6_ := Aside0.mk (hb); have n7_ := Aside0.mk (ho); clear HO_1470001; clear HO_1470002; clear HO_1470003; clear BK1457; clear BK1458; clear BK1469; clear HB; clear HO1476; have HO_1470001 := n0_; have HO_1470002 := n1_; have HO_1470003 := n2_; have BK1457 := n3_; have BK1458 := n4_; have BK1469 := n5_; have HB := n6_; have HO1480 := n7_; clear n0_ n1_ n2_ n3_ n4_ n5_ n6_ n7_; clear ho hb hg hat) | ((with_reducible refine gate_builtin (b := .append) (xs := #[.tmp 62, .tmp 64]) rfl ?_); (try (refine gate_guard (by rfl) ?_; dsimp only)); at_builtin; refine Kd.R_append (Kd.int .i64) (w0 := w) w.heap.size rfl (.tmp 62) (.tmp 64) 24 3 (.int .i64 0) 8 rfl Try.underlying24 info3 rfl (by decide) (by omega) v1479 y1478 a1 [.int .i64 a1] (fun k_ => some k_ ≠ (u1470001 : Value).ownBlock ∧ some k_ ≠ (u1470002 : Value).ownBlock ∧ some k_ ≠ (u1470003 : Value).ownBlock) (fun _ => False) rfl rfl ?aP (fun _ hk => hk.elim) ?aF ?aO ?aB ?aS ?aL ?_; (case aP => exact rfl); (case aB => exact (hb_ HB.out)); (case aF => exact (fun k_ hk => ⟨Kd.fresh' (Kd.R_lt (rq_ HO_1470001.out)) k_ hk, Kd.fresh' (Kd.R_lt (rq_ HO_1470002.out)) k_ hk, Kd.fresh' (Kd.R_lt (rq_ HO_1470003.out)) k_ hk⟩)); (case aO => exact (rq_ HO1480.out)); (case aS => exact (below_size (hb_ HB.out))); (case aL => have := LMc66.out; omega); intro v1482 w85 ho hb hg hat; rw [← Ny1481.out] at ho; have n0_ := Aside0.mk (Kd.R_after (ok := (fun k_ => some k_ ≠ (u1470002 : Value).ownBlock ∧ some k_ ≠ (u1470003 : Value).ownBlock)) (rq_ HO_1470001.out) hg hat); have n1_ := Aside0.mk (Kd.R_after (ok := (fun k_ => some k_ ≠ (u1470001 : Value).ownBlock ∧ some k_ ≠ (u1470003 : Value).ownBlock)) (rq_ HO_1470002.out) hg hat); have n2_ := Aside0.mk (Kd.R_after (ok := (fun k_ => some k_ ≠ (u1470001 : Value).ownBlock ∧ some k_ ≠ (u1470002 : Value).ownBlock)) (rq_ HO_1470003.out) hg hat); have n3_ := Aside0.mk (blk_grown (g := gb1457) (o := .cells #[.int .i64 a0_0, .slice A0_1 l0_1.length c0_1, .slice A0_2 l0_2.length c0_2, .slice A0_3 l0_3.length c0_3] 26 (0, 0)) (bq_ BK1457.out) hg (Kd.R_ne HO1480.out BK1457.out (by decide))); have n4_ := Aside0.mk (blk_grown (g := gb1458) (o := .cells #[.int .i64 x1459000_25, .slice none 0 0, .slice none 0 0, .slice none 0 0] 26 (0, 0)) (bq_ BK1458.out) hg (Kd.R_ne HO1480.out BK1458.out (by decide))); have n5_ := Aside0.mk (blk_grown (g := gb1469) (o := .cells #[.int .i64 t1459, u1470001, u1470002, u1470003] 26 (0, 0)) (bq_ BK1469.out) hg (Kd.R_ne HO1480.out BK1469.out (by decide))); have n6_ := Aside0.mk (hb); have n7_ := Aside0.mk (ho); clear HO_1470001; clear HO_1470002; clear HO_1470003; clear BK1457; clear BK1458; clear BK1469; clear HB; clear HO1480; have HO_1470001 := n0_; have HO_1470002 := n1_; have HO_1470003 := n2_; have BK1457 := n3_; have BK1458 := n4_; have BK1469 := n5_; have HB := n6_; have HO1483 := n7_; clear n0_ n1_ n2_ n3_ n4_ n5_ n6_ n7_; clear ho hb hg hat; have hcz86_0 : w85.cell? ⟨gb1457, 0, none⟩ = some (.int .i64 a0_0) := (blk_cell BK1457.out 0).trans rfl; have hcz86_1 : w85.cell? ⟨gb1457, 1, none⟩ = some (.slice A0_1 l0_1.length c0_1) := (blk_cell BK1457.out 1).trans rfl; have hcz86_2 : w85.cell? ⟨gb1457, 2, none⟩ = some (.slice A0_2 l0_2.length c0_2) := (blk_cell BK1457.out 2).trans rfl; have hcz86_3 : w85.cell? ⟨gb1457, 3, none⟩ = some (.slice A0_3 l0_3.length c0_3) := (blk_cell BK1457.out 3).trans rfl; have hfz86_0 := blk_frozen BK1457.out 0; have hfz86_1 := blk_frozen BK1457.out 1; have hfz86_2 := blk_frozen BK1457.out 2; have hfz86_3 := blk_frozen BK1457.out 3; obtain ⟨i087, hi087, _, hsz87, _⟩ := info_parts info3; obtain ⟨A87, hcut87, hA87, hC87⟩ := print_drop_of (P := Try.prog) (Value.int .i64) 0 24 3 .i64 Try.underlying24 hi087 hsz87 A0_1 c0_1 l0_1 x8_47 (of_decide_eq_true (by first | (with_reducible assumption) | assumption)) (of_decide_eq_true (by first | (with_reducible assumption) | assumption)) HC0_1.out; have HR1484 := Aside0.mk (Kd.C_of_reads (h1 := fun _ => rfl) (hA87 _ (Kd.reads_of_C HR0_1.out))); have HC1484 := Aside0.mk hC87; clear hA87 hC87 hi087 hsz87) | ((with_reducible refine gate_builtin (b := .append) (xs := #[.tmp 66, .tmp 70]) rfl ?_); (try (refine gate_guard (by rfl) ?_; dsimp only)); at_builtin; refine Kd.R_append_rows (Kd.int .i64) (w0 := w) w.heap.size rfl (.tmp 66) (.tmp 70) 24 3 (.int .i64 0) 8 rfl Try.underlying24 info3 rfl (by decide) (by omega) v1482 y1481 (l0_1.drop (x8_47 : Int).toNat) _ _ _ (fun k_ => some k_ ≠ (u1470001 : Value).ownBlock ∧ some k_ ≠ (u1470002 : Value).ownBlock ∧ some k_ ≠ (u1470003 : Value).ownBlock) (fun _ => False) rfl rfl ?aO ?aR (fun _ _ h => h) (fun _ h => h.elim) ?aF ?aB ?aS ?aL ?_; (case aR => first | (rw [← show (l0_1.drop (x8_47 : Int).toNat).length = (l0_1.length - x8_47.toNat) from List.length_drop]; (repeat (first | exact (Kd.C_below HR1484.out HB.out) | (with_reducible refine Kd.C_alloc ?_ _) | (with_reducible refine Kd.C_drewN ?_ _) | (with_reducible refine Kd.C_drew ?_))); done) | (refine cast (congrArg (fun n_ => ReadsRow _ _ _ _ n_ _) (show (l0_1.drop (x8_47 : Int).toNat).length = (l0_1.length - x8_47.toNat) from List.length_drop)) ?_; (repeat (first | exact (Kd.C_below HR1484.out HB.out) | (with_reducible refine Kd.C_alloc ?_ _) | (with_reducible refine Kd.C_drewN ?_ _) | (with_reducible refine Kd.C_drew ?_))); done) | (repeat (first | exact (Kd.C_below HR1484.out HB.out) | (with_reducible refine Kd.C_alloc ?_ _) | (with_reducible refine Kd.C_drewN ?_ _) | (with_reducible refine Kd.C_drew ?_)))); (case aB => exact (hb_ HB.out)); (case aF => exact (fun k_ hk => ⟨Kd.fresh' (Kd.R_lt (rq_ HO_1470001.out)) k_ hk, Kd.fresh' (Kd.R_lt (rq_ HO_1470002.out)) k_ hk, Kd.fresh' (Kd.R_lt (rq_ HO_1470003.out)) k_ hk⟩)); (case aO => exact (rq_ HO1483.out)); (case aS => exact (below_size (hb_ HB.out))); (case aL => have := LMc69.out; have hlx_ := (show (l0_1.drop (x8_47 : Int).toNat).length = (l0_1.length - x8_47.toNat) from List.length_drop); omega); intro v1486 w88 ho hb hg hat; rw [← Ny1485.out] at ho; have n0_ := Aside0.mk (Kd.R_after (ok := (fun k_ => some k_ ≠ (u1470002 : Value).ownBlock ∧ some k_ ≠ (u1470003 : Value).ownBlock)) (rq_ HO_1470001.out) hg hat); have n1_ := Aside0.mk (Kd.R_after (ok := (fun k_ => some k_ ≠ (u1470001 : Value).ownBlock ∧ some k_ ≠ (u1470003 : Value).ownBlock)) (rq_ HO_1470002.out) hg hat); have n2_ := Aside0.mk (Kd.R_after (ok := (fun k_ => some k_ ≠ (u1470001 : Value).ownBlock ∧ some k_ ≠ (u1470002 : Value).ownBlock)) (rq_ HO_1470003.out) hg hat); have n3_ := Aside0.mk (blk_grown (g := gb1457) (o := .cells #[.int .i64 a0_0, .slice A0_1 l0_1.length c0_1, .slice A0_2 l0_2.length c0_2, .slice A0_3 l0_3.length c0_3] 26 (0, 0)) (bq_ BK1457.out) hg (Kd.R_ne HO1483.out BK1457.out (by decide))); have n4_ := Aside0.mk (blk_grown (g := gb1458) (o := .cells #[.int .i64 x1459000_25, .slice none 0 0, .slice none 0 0, .slice none 0 0] 26 (0, 0)) (bq_ BK1458.out) hg (Kd.R_ne HO1483.out BK1458.out (by decide))); have n5_ := Aside0.mk (blk_grown (g := gb1469) (o := .cells #[.int .i64 t1459, u1470001, u1470002, u1470003] 26 (0, 0)) (bq_ BK1469.out) hg (Kd.R_ne HO1483.out BK1469.out (by decide))); have n6_ := Aside0.mk (hb); have n7_ := Aside0.mk (ho); clear HO_1470001; clear HO_1470002; clear HO_1470003; clear BK1457; clear BK1458; clear BK1469; clear HB; clear HO1483; have HO_1470001 := n0_; have HO_1470002 := n1_; have HO_1470003 := n2_; have BK1457 := n3_; have BK1458 := n4_; have BK1469 := n5_; have HB := n6_; have HO1487 := n7_; clear n0_ n1_ n2_ n3_ n4_ n5_ n6_ n7_; clear ho hb hg hat; obtain ⟨Ao89, co89, eo89⟩ := Kd.R_slice HO1487.out; subst eo89; have hnb90 := NB1469_1458.out; have hnc90 := NB1458_1469.out; have hcz91_0 : w88.cell? ⟨gb1469, 0, none⟩ = some (.int .i64 t1459) := (blk_cell BK1469.out 0).trans rfl; have hcz91_1 : w88.cell? ⟨gb1469, 1, none⟩ = some (u1470001) := (blk_cell BK1469.out 1).trans rfl; have hcz91_2 : w88.cell? ⟨gb1469, 2, none⟩ = some (u1470002) := (blk_cell BK1469.out 2).trans rfl; have hcz91_3 : w88.cell? ⟨gb1469, 3, none⟩ = some (u1470003) := (blk_cell BK1469.out 3).trans rfl; have hfz91_0 := blk_frozen BK1469.out 0; have hfz91_1 := blk_frozen BK1469.out 1; have hfz91_2 := blk_frozen BK1469.out 2; have hfz91_3 := blk_frozen BK1469.out 3) | ((with_reducible refine gate_dst (N := 73) rfl ?_); (try (refine gate_guard (by rfl) ?_; dsimp only)); refine Kd.R_lit (Kd.int .i64) _ 3 ?hg (N := 73) ?hd (xs := ([] : List Int)) (inner := []) (ok := fun _ => True) (okp := fun _ => True) ?hr ?hp (fun _ hk => hk) trivial (Below.refl _ _) (Nat.le_refl _) (by simp) ?_; (case hd => rfl); (case hg => rfl); (case hr => first | (go_simp; done) | (go_simp; rfl)); (case hp => exact (Reps.none _ _)); intro v1489 w92 ho93 hb hg_ hnew_; clear hg_ hnew_; (first | rw [← Ny1488.out] at ho93 | (simp only [Int.reduceToNat] at ho93; rw [← Ny1488.out] at ho93)); have n0_ := Aside0.mk (Kd.R_elder' (rk_ HO_1470001.out BK1469.out) (Kd.R_base ho93) hb); have n1_ := Aside0.mk (Kd.R_elder' (rk_ HO_1470002.out BK1469.out) (Kd.R_base ho93) hb); have n2_ := Aside0.mk (Kd.R_elder' (rk_ HO_1470003.out BK1469.out) (Kd.R_base ho93) hb); have n3_ := Aside0.mk (Kd.R_elder' (rk_ HO1487.out BK1469.out) (Kd.R_base ho93) hb); have n4_ := Aside0.mk (Kd.R_lower (Kd.R_new' (Kd.R_new' (Kd.R_new' (Kd.R_new' ho93 (Kd.R_lt (rk_ HO_1470001.out BK1469.out))) (Kd.R_lt (rk_ HO_1470002.out BK1469.out))) (Kd.R_lt (rk_ HO_1470003.out BK1469.out))) (Kd.R_lt (rk_ HO1487.out BK1469.out))) (below_size (hb_ HB.out))); have n5_ := Aside0.mk (blk_below (g := gb1457) (o := .cells #[.int .i64 a0_0, .slice A0_1 l0_1.length c0_1, .slice A0_2 l0_2.length c0_2, .slice A0_3 l0_3.length c0_3] 26 (0, 0)) (bf_ NB1457_1469.out BK1457.out) hb); have n6_ := Aside0.mk (blk_below (g := gb1458) (o := .cells #[.int .i64 x1459000_25, .slice none 0 0, .slice none 0 0, .slice none 0 0] 26 (0, 0)) (bf_ NB1458_1469.out BK1458.out) hb); have n7_ := Aside0.mk (blk_below (g := gb1469) (o := .cells #[.int .i64 t1459, .slice Ao89 y1485.length co89, u1470002, u1470003] 26 (0, 0)) (bp_ BK1469.out) hb); have n8_ := Aside0.mk (below_step (hb_ HB.out) hb); clear HO_1470001; clear HO_1470002; clear HO_1470003; clear HO1487; clear BK1457; clear BK1458; clear BK1469; clear HB; have HO_1470001 := n0_; have HO_1470002 := n1_; have HO_1470003 := n2_; have HO1487 := n3_; have HO1490 := n4_; have BK1457 := n5_; have BK1458 := n6_; have BK1469 := n7_; have HB := n8_; clear n0_ n1_ n2_ n3_ n4_ n5_ n6_ n7_ n8_; clear hb ho93; have hcz94_0 : w92.cell? ⟨gb1457, 0, none⟩ = some (.int .i64 a0_0) := (blk_cell BK1457.out 0).trans rfl; have hcz94_1 : w92.cell? ⟨gb1457, 1, none⟩ = some (.slice A0_1 l0_1.length c0_1) := (blk_cell BK1457.out 1).trans rfl; have hcz94_2 : w92.cell? ⟨gb1457, 2, none⟩ = some (.slice A0_2 l0_2.length c0_2) := (blk_cell BK1457.out 2).trans rfl; have hcz94_3 : w92.cell? ⟨gb1457, 3, none⟩ = some (.slice A0_3 l0_3.length c0_3) := (blk_cell BK1457.out 3).trans rfl; have hfz94_0 := blk_frozen BK1457.out 0; have hfz94_1 := blk_frozen BK1457.out 1; have hfz94_2 := blk_frozen BK1457.out 2; have hfz94_3 := blk_frozen BK1457.out 3; obtain ⟨i095, hi095, _, hsz95, _⟩ := info_parts info3; obtain ⟨hcut95, hA95, hC95⟩ := print_take_of (P := Try.prog) (Value.int .i64) 0 24 3 .i64 Try.underlying24 hi095 hsz95 A0_2 c0_2 l0_2 x8_47 (of_decide_eq_true (by first | (with_reducible assumption) | assumption)) (of_decide_eq_true (by first | (with_reducible assumption) | assumption)) HC0_2.out; have HR1491 := Aside0.mk (Kd.C_of_reads (h1 := fun _ => rfl) (hA95 _ (Kd.reads_of_C HR0_2.out))); have HC1491 := Aside0.mk hC95; clear hA95 hC95 hi095 hsz95) | ((with_reducible refine gate_builtin (b := .append) (xs := #[.tmp 73, .tmp 77]) rfl ?_); (try (refine gate_guard (by rfl) ?_; dsimp only)); at_builtin; refine Kd.R_append_rows (Kd.int .i64) (w0 := w) w.heap.size rfl (.tmp 73) (.tmp 77) 24 3 (.int .i64 0) 8 rfl Try.underlying24 info3 rfl (by decide) (by omega) v1489 y1488 (l0_2.take (x8_47 : Int).toNat) _ _ _ (fun k_ => some k_ ≠ (u1470001 : Value).ownBlock ∧ some k_ ≠ (u1470002 : Value).ownBlock ∧ some k_ ≠ (u1470003 : Value).ownBlock ∧ some k_ ≠ (.slice Ao89 y1485.length co89 : Value).ownBlock) (fun _ => False) rfl rfl ?aO ?aR (fun _ _ h => h) (fun _ h => h.elim) ?aF ?aB ?aS ?aL ?_; (case aR => first | (rw [← show (l0_2.take (x8_47 : Int).toNat).length = x8_47.toNat from (by rw [List.length_take]; have h_ : (x8_47 : Int) ≤ (l0_2.length : Int) := of_decide_eq_true (by first | (with_reducible assumption) | assumption); omega)]; (repeat (first | exact (Kd.C_below HR1491.out HB.out) | (with_reducible refine Kd.C_alloc ?_ _) | (with_reducible refine Kd.C_drewN ?_ _) | (with_reducible refine Kd.C_drew ?_))); done) | (refine cast (congrArg (fun n_ => ReadsRow _ _ _ _ n_ _) (show (l0_2.take (x8_47 : Int).toNat).length = x8_47.toNat from (by rw [List.length_take]; have h_ : (x8_47 : Int) ≤ (l0_2.length : Int) := of_decide_eq_true (by first | (with_reducible assumption) | assumption); omega))) ?_; (repeat (first | exact (Kd.C_below HR1491.out HB.out) | (with_reducible refine Kd.C_alloc ?_ _) | (with_reducible refine Kd.C_drewN ?_ _) | (with_reducible refine Kd.C_drew ?_))); done) | (repeat (first | exact (Kd.C_below HR1491.out HB.out) | (with_reducible refine Kd.C_alloc ?_ _) | (with_reducible refine Kd.C_drewN ?_ _) | (with_reducible refine Kd.C_drew ?_)))); (case aB => exact (hb_ HB.out)); (case aF => exact (fun k_ hk => ⟨Kd.fresh' (Kd.R_lt (rq_ HO_1470001.out)) k_ hk, Kd.fresh' (Kd.R_lt (rq_ HO_1470002.out)) k_ hk, Kd.fresh' (Kd.R_lt (rq_ HO_1470003.out)) k_ hk, Kd.fresh' (Kd.R_lt (rq_ HO1487.out)) k_ hk⟩)); (case aO => exact (rm_ HO1490.out)); (case aS => exact (below_size (hb_ HB.out))); (case aL => have := LMc72.out; have hlx_ := (show (l0_2.take (x8_47 : Int).toNat).length = x8_47.toNat from (by rw [List.length_take]; have h_ : (x8_47 : Int) ≤ (l0_2.length : Int) := of_decide_eq_true (by first | (with_reducible assumption) | assumption); omega)); omega); intro v1493 w96 ho hb hg hat; rw [← Ny1492.out] at ho; have n0_ := Aside0.mk (Kd.R_after (ok := (fun k_ => some k_ ≠ (u1470002 : Value).ownBlock ∧ some k_ ≠ (u1470003 : Value).ownBlock ∧ some k_ ≠ (.slice Ao89 y1485.length co89 : Value).ownBlock)) (rm_ HO_1470001.out) hg hat); have n1_ := Aside0.mk (Kd.R_after (ok := (fun k_ => some k_ ≠ (u1470001 : Value).ownBlock ∧ some k_ ≠ (u1470003 : Value).ownBlock ∧ some k_ ≠ (.slice Ao89 y1485.length co89 : Value).ownBlock)) (rm_ HO_1470002.out) hg hat); have n2_ := Aside0.mk (Kd.R_after (ok := (fun k_ => some k_ ≠ (u1470001 : Value).ownBlock ∧ some k_ ≠ (u1470002 : Value).ownBlock ∧ some k_ ≠ (.slice Ao89 y1485.length co89 : Value).ownBlock)) (rm_ HO_1470003.out) hg hat); have n3_ := Aside0.mk (blk_grown (g := gb1457) (o := .cells #[.int .i64 a0_0, .slice A0_1 l0_1.length c0_1, .slice A0_2 l0_2.length c0_2, .slice A0_3 l0_3.length c0_3] 26 (0, 0)) (bq_ BK1457.out) hg (Kd.R_ne HO1490.out BK1457.out (by decide))); have n4_ := Aside0.mk (blk_grown (g := gb1458) (o := .cells #[.int .i64 x1459000_25, .slice none 0 0, .slice none 0 0, .slice none 0 0] 26 (0, 0)) (bq_ BK1458.out) hg (Kd.R_ne HO1490.out BK1458.out (by decide))); have n5_ := Aside0.mk (blk_grown (g := gb1469) (o := .cells #[.int .i64 t1459, .slice Ao89 y1485.length co89, u1470002, u1470003] 26 (0, 0)) (bq_ BK1469.out) hg (Kd.R_ne HO1490.out BK1469.out (by decide))); have n6_ := Aside0.mk (Kd.R_after (ok := (fun k_ => some k_ ≠ (u1470001 : Value).ownBlock ∧ some k_ ≠ (u1470002 : Value).ownBlock ∧ some k_ ≠ (u1470003 : Value).ownBlock)) (rq_ HO1487.out) hg hat); have n7_ := Aside0.mk (hb); have n8_ := Aside0.mk (ho); clear HO_1470001; clear HO_1470002; clear HO_1470003; clear BK1457; clear BK1458; clear BK1469; clear HO1487; clear HB; clear HO1490; have HO_1470001 := n0_; have HO_1470002 := n1_; have HO_1470003 := n2_; have BK1457 := n3_; have BK1458 := n4_; have BK1469 := n5_; have HO1487 := n6_; have HB := n7_; have HO1494 := n8_; clear n0_ n1_ n2_ n3_ n4_ n5_ n6_ n7_ n8_; clear ho hb hg hat) | ((with_reducible refine gate_builtin (b := .append) (xs := #[.tmp 79, .tmp 81]) rfl ?_); (try (refine gate_guard (by rfl) ?_; dsimp only)); at_builtin; refine Kd.R_append (Kd.int .i64) (w0 := w) w.heap.size rfl (.tmp 79) (.tmp 81) 24 3 (.int .i64 0) 8 rfl Try.underlying24 info3 rfl (by decide) (by omega) v1493 y1492 a2 [.int .i64 a2] (fun k_ => some k_ ≠ (u1470001 : Value).ownBlock ∧ some k_ ≠ (u1470002 : Value).ownBlock ∧ some k_ ≠ (u1470003 : Value).ownBlock ∧ some k_ ≠ (.slice Ao89 y1485.length co89 : Value).ownBlock) (fun _ => False) rfl rfl ?aP (fun _ hk => hk.elim) ?aF ?aO ?aB ?aS ?aL ?_; (case aP => exact rfl); (case aB => exact (hb_ HB.out)); (case aF => exact (fun k_ hk => ⟨Kd.fresh' (Kd.R_lt (rq_ HO_1470001.out)) k_ hk, Kd.fresh' (Kd.R_lt (rq_ HO_1470002.out)) k_ hk, Kd.fresh' (Kd.R_lt (rq_ HO_1470003.out)) k_ hk, Kd.fresh' (Kd.R_lt (rq_ HO1487.out)) k_ hk⟩)); (case aO => exact (rq_ HO1494.out)); (case aS => exact (below_size (hb_ HB.out))); (case aL => have := LMc73.out; omega); intro v1496 w97 ho hb hg hat; rw [← Ny1495.out] at ho; have n0_ := Aside0.mk (Kd.R_after (ok := (fun k_ => some k_ ≠ (u1470002 : Value).ownBlock ∧ some k_ ≠ (u1470003 : Value).ownBlock ∧ some k_ ≠ (.slice Ao89 y1485.length co89 : Value).ownBlock)) (rq_ HO_1470001.out) hg hat); have n1_ := Aside0.mk (Kd.R_after (ok := (fun k_ => some k_ ≠ (u1470001 : Value).ownBlock ∧ some k_ ≠ (u1470003 : Value).ownBlock ∧ some k_ ≠ (.slice Ao89 y1485.length co89 : Value).ownBlock)) (rq_ HO_1470002.out) hg hat); have n2_ := Aside0.mk (Kd.R_after (ok := (fun k_ => some k_ ≠ (u1470001 : Value).ownBlock ∧ some k_ ≠ (u1470002 : Value).ownBlock ∧ some k_ ≠ (.slice Ao89 y1485.length co89 : Value).ownBlock)) (rq_ HO_1470003.out) hg hat); have n3_ := Aside0.mk (blk_grown (g := gb1457) (o := .cells #[.int .i64 a0_0, .slice A0_1 l0_1.length c0_1, .slice A0_2 l0_2.length c0_2, .slice A0_3 l0_3.length c0_3] 26 (0, 0)) (bq_ BK1457.out) hg (Kd.R_ne HO1494.out BK1457.out (by decide))); have n4_ := Aside0.mk (blk_grown (g := gb1458) (o := .cells #[.int .i64 x1459000_25, .slice none 0 0, .slice none 0 0, .slice none 0 0] 26 (0, 0)) (bq_ BK1458.out) hg (Kd.R_ne HO1494.out BK1458.out (by decide))); have n5_ := Aside0.mk (blk_grown (g := gb1469) (o := .cells #[.int .i64 t1459, .slice Ao89 y1485.length co89, u1470002, u1470003] 26 (0, 0)) (bq_ BK1469.out) hg (Kd.R_ne HO1494.out BK1469.out (by decide))); have n6_ := Aside0.mk (Kd.R_after (ok := (fun k_ => some k_ ≠ (u1470001 : Value).ownBlock ∧ some k_ ≠ (u1470002 : Value).ownBlock ∧ some k_ ≠ (u1470003 : Value).ownBlock)) (rq_ HO1487.out) hg hat); have n7_ := Aside0.mk (hb); have n8_ := Aside0.mk (ho); clear HO_1470001; clear HO_1470002; clear HO_1470003; clear BK1457; clear BK1458; clear BK1469; clear HO1487; clear HB; clear HO1494; have HO_1470001 := n0_; have HO_1470002 := n1_; have HO_1470003 := n2_; have BK1457 := n3_; have BK1458 := n4_; have BK1469 := n5_; have HO1487 := n6_; have HB := n7_; have HO1497 := n8_; clear n0_ n1_ n2_ n3_ n4_ n5_ n6_ n7_ n8_; clear ho hb hg hat; have hcz98_0 : w97.cell? ⟨gb1457, 0, none⟩ = some (.int .i64 a0_0) := (blk_cell BK1457.out 0).trans rfl; have hcz98_1 : w97.cell? ⟨gb1457, 1, none⟩ = some (.slice A0_1 l0_1.length c0_1) := (blk_cell BK1457.out 1).trans rfl; have hcz98_2 : w97.cell? ⟨gb1457, 2, none⟩ = some (.slice A0_2 l0_2.length c0_2) := (blk_cell BK1457.out 2).trans rfl; have hcz98_3 : w97.cell? ⟨gb1457, 3, none⟩ = some (.slice A0_3 l0_3.length c0_3) := (blk_cell BK1457.out 3).trans rfl; have hfz98_0 := blk_frozen BK1457.out 0; have hfz98_1 := blk_frozen BK1457.out 1; have hfz98_2 := blk_frozen BK1457.out 2; have hfz98_3 := blk_frozen BK1457.out 3; obtain ⟨i099, hi099, _, hsz99, _⟩ := info_parts info3; obtain ⟨A99, hcut99, hA99, hC99⟩ := print_drop_of (P := Try.prog) (Value.int .i64) 0 24 3 .i64 Try.underlying24 hi099 hsz99 A0_2 c0_2 l0_2 x8_47 (of_decide_eq_true (by first | (with_reducible assumption) | assumption)) (of_decide_eq_true (by first | (with_reducible assumption) | assumption)) HC0_2.out; have HR1498 := Aside0.mk (Kd.C_of_reads (h1 := fun _ => rfl) (hA99 _ (Kd.reads_of_C HR0_2.out))); have HC1498 := Aside0.mk hC99; clear hA99 hC99 hi099 hsz99) | ((with_reducible refine gate_builtin (b := .append) (xs := #[.tmp 83, .tmp 87]) rfl ?_); (try (refine gate_guard (by rfl) ?_; dsimp only)); at_builtin; refine Kd.R_append_rows (Kd.int .i64) (w0 := w) w.heap.size rfl (.tmp 83) (.tmp 87) 24 3 (.int .i64 0) 8 rfl Try.underlying24 info3 rfl (by decide) (by omega) v1496 y1495 (l0_2.drop (x8_47 : Int).toNat) _ _ _ (fun k_ => some k_ ≠ (u1470001 : Value).ownBlock ∧ some k_ ≠ (u1470002 : Value).ownBlock ∧ some k_ ≠ (u1470003 : Value).ownBlock ∧ some k_ ≠ (.slice Ao89 y1485.length co89 : Value).ownBlock) (fun _ => False) rfl rfl ?aO ?aR (fun _ _ h => h) (fun _ h => h.elim) ?aF ?aB ?aS ?aL ?_; (case aR => first | (rw [← show (l0_2.drop (x8_47 : Int).toNat).length = (l0_2.length - x8_47.toNat) from List.length_drop]; (repeat (first | exact (Kd.C_below HR1498.out HB.out) | (with_reducible refine Kd.C_alloc ?_ _) | (with_reducible refine Kd.C_drewN ?_ _) | (with_reducible refine Kd.C_drew ?_))); done) | (refine cast (congrArg (fun n_ => ReadsRow _ _ _ _ n_ _) (show (l0_2.drop (x8_47 : Int).toNat).length = (l0_2.length - x8_47.toNat) from List.length_drop)) ?_; (repeat (first | exact (Kd.C_below HR1498.out HB.out) | (with_reducible refine Kd.C_alloc ?_ _) | (with_reducible refine Kd.C_drewN ?_ _) | (with_reducible refine Kd.C_drew ?_))); done) | (repeat (first | exact (Kd.C_below HR1498.out HB.out) | (with_reducible refine Kd.C_alloc ?_ _) | (with_reducible refine Kd.C_drewN ?_ _) | (with_reducible refine Kd.C_drew ?_)))); (case aB => exact (hb_ HB.out)); (case aF => exact (fun k_ hk => ⟨Kd.fresh' (Kd.R_lt (rq_ HO_1470001.out)) k_ hk, Kd.fresh' (Kd.R_lt (rq_ HO_1470002.out)) k_ hk, Kd.fresh' (Kd.R_lt (rq_ HO_1470003.out)) k_ hk, Kd.fresh' (Kd.R_lt (rq_ HO1487.out)) k_ hk⟩)); (case aO => exact (rq_ HO1497.out)); (case aS => exact (below_size (hb_ HB.out))); (case aL => have := LMc76.out; have hlx_ := (show (l0_2.drop (x8_47 : Int).toNat).length = (l0_2.length - x8_47.toNat) from List.length_drop); omega); intro v1500 w100 ho hb hg hat; rw [← Ny1499.out] at ho; have n0_ := Aside0.mk (Kd.R_after (ok := (fun k_ => some k_ ≠ (u1470002 : Value).ownBlock ∧ some k_ ≠ (u1470003 : Value).ownBlock ∧ some k_ ≠ (.slice Ao89 y1485.length co89 : Value).ownBlock)) (rq_ HO_1470001.out) hg hat); have n1_ := Aside0.mk (Kd.R_after (ok := (fun k_ => some k_ ≠ (u1470001 : Value).ownBlock ∧ some k_ ≠ (u1470003 : Value).ownBlock ∧ some k_ ≠ (.slice Ao89 y1485.length co89 : Value).ownBlock)) (rq_ HO_1470002.out) hg hat); have n2_ := Aside0.mk (Kd.R_after (ok := (fun k_ => some k_ ≠ (u1470001 : Value).ownBlock ∧ some k_ ≠ (u1470002 : Value).ownBlock ∧ some k_ ≠ (.slice Ao89 y1485.length co89 : Value).ownBlock)) (rq_ HO_1470003.out) hg hat); have n3_ := Aside0.mk (blk_grown (g := gb1457) (o := .cells #[.int .i64 a0_0, .slice A0_1 l0_1.length c0_1, .slice A0_2 l0_2.length c0_2, .slice A0_3 l0_3.length c0_3] 26 (0, 0)) (bq_ BK1457.out) hg (Kd.R_ne HO1497.out BK1457.out (by decide))); have n4_ := Aside0.mk (blk_grown (g := gb1458) (o := .cells #[.int .i64 x1459000_25, .slice none 0 0, .slice none 0 0, .slice none 0 0] 26 (0, 0)) (bq_ BK1458.out) hg (Kd.R_ne HO1497.out BK1458.out (by decide))); have n5_ := Aside0.mk (blk_grown (g := gb1469) (o := .cells #[.int .i64 t1459, .slice Ao89 y1485.length co89, u1470002, u1470003] 26 (0, 0)) (bq_ BK1469.out) hg (Kd.R_ne HO1497.out BK1469.out (by decide))); have n6_ := Aside0.mk (Kd.R_after (ok := (fun k_ => some k_ ≠ (u1470001 : Value).ownBlock ∧ some k_ ≠ (u1470002 : Value).ownBlock ∧ some k_ ≠ (u1470003 : Value).ownBlock)) (rq_ HO1487.out) hg hat); have n7_ := Aside0.mk (hb); have n8_ := Aside0.mk (ho); clear HO_1470001; clear HO_1470002; clear HO_1470003; clear BK1457; clear BK1458; clear BK1469; clear HO1487; clear HB; clear HO1497; have HO_1470001 := n0_; have HO_1470002 := n1_; have HO_1470003 := n2_; have BK1457 := n3_; have BK1458 := n4_; have BK1469 := n5_; have HO1487 := n6_; have HB := n7_; have HO1501 := n8_; clear n0_ n1_ n2_ n3_ n4_ n5_ n6_ n7_ n8_; clear ho hb hg hat; obtain ⟨Ao101, co101, eo101⟩ := Kd.R_slice HO1501.out; subst eo101; have hcz102_0 : w100.cell? ⟨gb1469, 0, none⟩ = some (.int .i64 t1459) := (blk_cell BK1469.out 0).trans rfl; have hcz102_1 : w100.cell? ⟨gb1469, 1, none⟩ = some (.slice Ao89 y1485.length co89) := (blk_cell BK1469.out 1).trans rfl; have hcz102_2 : w100.cell? ⟨gb1469, 2, none⟩ = some (u1470002) := (blk_cell BK1469.out 2).trans rfl; have hcz102_3 : w100.cell? ⟨gb1469, 3, none⟩ = some (u1470003) := (blk_cell BK1469.out 3).trans rfl; have hfz102_0 := blk_frozen BK1469.out 0; have hfz102_1 := blk_frozen BK1469.out 1; have hfz102_2 := blk_frozen BK1469.out 2; have hfz102_3 := blk_frozen BK1469.out 3; have hcz103_0 : w100.cell? ⟨gb1457, 0, none⟩ = some (.int .i64 a0_0) := (blk_cell BK1457.out 0).trans rfl; have hcz103_1 : w100.cell? ⟨gb1457, 1, none⟩ = some (.slice A0_1 l0_1.length c0_1) := (blk_cell BK1457.out 1).trans rfl; have hcz103_2 : w100.cell? ⟨gb1457, 2, none⟩ = some (.slice A0_2 l0_2.length c0_2) := (blk_cell BK1457.out 2).trans rfl; have hcz103_3 : w100.cell? ⟨gb1457, 3, none⟩ = some (.slice A0_3 l0_3.length c0_3) := (blk_cell BK1457.out 3).trans rfl; have hfz103_0 := blk_frozen BK1457.out 0; have hfz103_1 := blk_frozen BK1457.out 1; have hfz103_2 := blk_frozen BK1457.out 2; have hfz103_3 := blk_frozen BK1457.out 3) | ((with_reducible refine gate_callee (f := 178) rfl ?_); refine goesL_ (some 92) rfl rfl Try.func178 (by kernel_rfl) rfl #[.int .i64 a0_0] rfl sm_ ?_; (with_reducible refine (spec_l5Up.calls a0_0 t1502 _ A77.out).mono ?_); rintro e w' ⟨rfl, ⟨nd, rfl⟩⟩; refine ⟨_, rfl, ?_⟩; have hcz104_0 : w100.cell? ⟨gb1458, 0, none⟩ = some (.int .i64 x1459000_25) := (blk_cell BK1458.out 0).trans rfl; have hcz104_1 : w100.cell? ⟨gb1458, 1, none⟩ = some (.slice none 0 0) := (blk_cell BK1458.out 1).trans rfl; have hcz104_2 : w100.cell? ⟨gb1458, 2, none⟩ = some (.slice none 0 0) := (blk_cell BK1458.out 2).trans rfl; have hcz104_3 : w100.cell? ⟨gb1458, 3, none⟩ = some (.slice none 0 0) := (blk_cell BK1458.out 3).trans rfl; have hfz104_0 := blk_frozen BK1458.out 0; have hfz104_1 := blk_frozen BK1458.out 1; have hfz104_2 := blk_frozen BK1458.out 2; have hfz104_3 := blk_frozen BK1458.out 3; obtain ⟨Ao105, co105, eo105⟩ := Kd.R_slice HO_1470003.out; subst eo105))
                refine bodyPost_ret (results_cell_row rfl _ _ gb1458 26 #[.int .i64 t1502, .slice Ao89 y1485.length co89, .slice Ao101 y1499.length co101, .slice Ao105 x1470003_25.length co105] (0, 0) _ rfl (by (with_reducible repeat (first | refine blk_drewN ?_ _ | refine blk_drew ?_ | refine blk_alloc ?_ _)); refine blk_put (cs := #[.int .i64 t1502, .slice Ao89 y1485.length co89, .slice Ao101 y1499.length co101, .slice none 0 0]) ?_ 3 _ rfl; (with_reducible repeat (first | refine blk_drewN ?_ _ | refine blk_drew ?_ | refine blk_alloc ?_ _)); refine blk_put (cs := #[.int .i64 t1502, .slice Ao89 y1485.length co89, .slice none 0 0, .slice none 0 0]) ?_ 2 _ rfl; (with_reducible repeat (first | refine blk_drewN ?_ _ | refine blk_drew ?_ | refine blk_alloc ?_ _)); refine blk_put (cs := #[.int .i64 t1502, .slice none 0 0, .slice none 0 0, .slice none 0 0]) ?_ 1 _ rfl; (with_reducible repeat (first | refine blk_drewN ?_ _ | refine blk_drew ?_ | refine blk_alloc ?_ _)); refine blk_put (cs := #[.int .i64 x1459000_25, .slice none 0 0, .slice none 0 0, .slice none 0 0]) ?_ 0 _ rfl; (with_reducible repeat (first | refine blk_drewN ?_ _ | refine blk_drew ?_ | refine blk_alloc ?_ _)); refine blk_far ?_ NB1458_1469.out _; (with_reducible repeat (first | refine blk_drewN ?_ _ | refine blk_drew ?_ | refine blk_alloc ?_ _)); refine blk_far ?_ NB1458_1469.out _; (with_reducible repeat (first | refine blk_drewN ?_ _ | refine blk_drew ?_ | refine blk_alloc ?_ _)); exact BK1458.out) Try.underlying26 rfl (by kernel_rfl)) rfl ?_
                exact ⟨_, _, _, er_, by (with_reducible repeat (first | apply Kd.R_alloc | apply Kd.R_drewN | apply Kd.R_drew)); exact Kd.R_mono (Kd.R_far (p := ⟨gb1458, 3, none⟩) (Kd.R_far (p := ⟨gb1458, 2, none⟩) (Kd.R_far (p := ⟨gb1458, 1, none⟩) (Kd.R_far (p := ⟨gb1458, 0, none⟩) (Kd.R_far (p := ⟨gb1469, 0, none⟩) (Kd.R_far (p := ⟨gb1469, 2, none⟩) (Kd.R_types (Kd.R_types HO1487.out BK1469.out (by decide)) BK1458.out (by decide)) (fun _ hk => hk.1.2) (.slice Ao101 y1499.length co101)) (fun _ hk => hk.1.2) (.int .i64 t1502)) (fun _ hk => hk.2) (.int .i64 t1502)) (fun _ hk => hk.2) (.slice Ao89 y1485.length co89)) (fun _ hk => hk.2) (.slice Ao101 y1499.length co101)) (fun _ hk => hk.2) (.slice Ao105 x1470003_25.length co105)) (fun _ hk => ⟨hk.1.1.2, hk.1.1.1.2.2⟩), by (with_reducible repeat (first | apply Kd.R_alloc | apply Kd.R_drewN | apply Kd.R_drew)); exact Kd.R_mono (Kd.R_far (p := ⟨gb1458, 3, none⟩) (Kd.R_far (p := ⟨gb1458, 2, none⟩) (Kd.R_far (p := ⟨gb1458, 1, none⟩) (Kd.R_far (p := ⟨gb1458, 0, none⟩) (Kd.R_far (p := ⟨gb1469, 0, none⟩) (Kd.R_far (p := ⟨gb1469, 2, none⟩) (Kd.R_types (Kd.R_types HO1501.out BK1469.out (by decide)) BK1458.out (by decide)) (fun _ hk => hk.1.2) (.slice Ao101 y1499.length co101)) (fun _ hk => hk.1.2) (.int .i64 t1502)) (fun _ hk => hk.2) (.int .i64 t1502)) (fun _ hk => hk.2) (.slice Ao89 y1485.length co89)) (fun _ hk => hk.2) (.slice Ao101 y1499.length co101)) (fun _ hk => hk.2) (.slice Ao105 x1470003_25.length co105)) (fun _ hk => ⟨hk.1.1.2.2.2, hk.1.1.2.2.1⟩), by (with_reducible repeat (first | apply Kd.R_alloc | apply Kd.R_drewN | apply Kd.R_drew)); exact Kd.R_mono (Kd.R_far (p := ⟨gb1458, 3, none⟩) (Kd.R_far (p := ⟨gb1458, 2, none⟩) (Kd.R_far (p := ⟨gb1458, 1, none⟩) (Kd.R_far (p := ⟨gb1458, 0, none⟩) (Kd.R_far (p := ⟨gb1469, 0, none⟩) (Kd.R_far (p := ⟨gb1469, 2, none⟩) (Kd.R_types (Kd.R_types HO_1470003.out BK1469.out (by decide)) BK1458.out (by decide)) (fun _ hk => hk.1.2) (.slice Ao101 y1499.length co101)) (fun _ hk => hk.1.2) (.int .i64 t1502)) (fun _ hk => hk.2) (.int .i64 t1502)) (fun _ hk => hk.2) (.slice Ao89 y1485.length co89)) (fun _ hk => hk.2) (.slice Ao101 y1499.length co101)) (fun _ hk => hk.2) (.slice Ao105 x1470003_25.length co105)) (fun _ hk => ⟨hk.1.1.1.2.2, hk.1.1.2⟩), hb_ HB.out⟩
               ·
                rw [if_neg c76] at H
                exact absurd H (by simp)
              ·
               rw [if_neg c73] at H
               exact absurd H (by simp)
             ·
              rw [if_neg c72] at H
              exact absurd H (by simp)
            ·
             rw [if_neg c71] at H
             exact absurd H (by simp)
           ·
            rw [if_neg c69] at H
            exact absurd H (by simp)
          ·
           rw [if_neg c66] at H
           exact absurd H (by simp)
         ·
          rw [if_neg c65] at H
          exact absurd H (by simp)
        ·
         rw [if_neg c64] at H
         exact absurd H (by simp)
       ·
        rw [if_neg c63] at H
        exact absurd H (by simp)
end Go.Proofs.Ytiknkolclcdajaa.Q
