/- Made by a program of ours out of the print of the loaded functions: for each of some functions a plain function, and the walk that shows that a call comes to what it says. No condition but those of each theorem. -/
import Derived.Test.YthmjhhkheohgfaaZFnTrimmed0
import Derived.Test.YthmjhhkheohgfaaZFnTrimmeda
namespace Go.Proofs.Ythmjhhkheohgfaa.Q
open Go.RowKit Go.Proofs.YthmjhhkheohgfaaW.PrintWords Go.Proofs.YthmjhhkheohgfaaW.PrintLast Go.Proofs.YthmjhhkheohgfaaW.PrintMore
attribute [local go_sem] max2_int min2_int max_two min_two max_three min_three max_four min_four   -- for this text's walks alone
set_option linter.unusedVariables false
set_option linter.unusedSimpArgs false
theorem qb0_ {P : Prop} (h : P := by have := HJ1.out; have := HJ9.out; have := HK3.out; have := HJ12.out; first | omega | exact Nat.le_refl _) : P := h
theorem qb1_ {P : Prop} (h : P := by first | rfl | (simp; done) | (simp [*]; done)) : P := h
theorem qb2_ {P : Prop} (h : P := by rw [qe_]; exact bp_ BK549.out) : P := h
theorem qbh0_ {P : Prop} (h : P := by repeat' first | (with_reducible exact ih0 _ _ _ _) | (with_reducible exact ih1 _ _ _) | (with_reducible exact ih2 _ _ _ _ _ _) | (with_reducible exact ih3 _ _ _ _ _ _) | (with_reducible exact ih4 _ _ _ _ _ _ _) | (with_reducible exact impl_wordsOk.mono _ _) | (with_reducible exact LeO.refl _) | (with_reducible exact LeO.none _) | (with_reducible refine LeO.ite ?_ ?_) | (with_reducible refine LeO.bind ?_ (fun _ => ?_)) | exact ih0 _ _ _ _ | exact ih1 _ _ _ | exact ih2 _ _ _ _ _ _ | exact ih3 _ _ _ _ _ _ | exact ih4 _ _ _ _ _ _ _ | exact impl_wordsOk.mono _ _ | exact LeO.none _ | refine LeO.ite ?_ ?_ | refine LeO.bind ?_ (fun _ => ?_)) : P := h

/-! ### impl_RowOk: function 14 -/
abbrev impl_RowOk.m0 : Array Bool := #[f_,f_,f_,f_,f_,f_,f_,f_,f_,f_,f_,f_,f_,f_,f_,f_,f_,f_,f_,f_,f_,f_,f_,f_,f_,f_,f_,f_,f_,f_,f_,f_,f_,f_,f_,f_,f_,f_,f_,f_,f_,f_,f_,f_,f_,f_,f_,f_,f_]
abbrev impl_RowOk.m1 : Array Bool := #[t_,f_,f_,f_,f_,f_,f_,f_,f_,f_,f_,f_,f_,f_,f_,f_,f_,f_,f_,f_,f_,f_,f_,f_,f_,f_,f_,f_,f_,f_,f_,f_,f_,f_,f_,f_,f_,f_,f_,f_,f_,f_,f_,f_,f_,f_,f_,f_,f_]
abbrev impl_RowOk.m2 : Array Bool := #[t_,f_,t_,f_,f_,f_,f_,f_,f_,f_,f_,f_,f_,f_,f_,f_,f_,f_,f_,f_,f_,f_,f_,f_,f_,f_,f_,f_,f_,f_,f_,f_,f_,f_,f_,f_,f_,f_,f_,f_,f_,f_,f_,f_,f_,f_,f_,f_,f_]
abbrev impl_RowOk.m3 : Array Bool := #[t_,f_,t_,f_,t_,f_,f_,f_,f_,f_,f_,f_,f_,f_,f_,f_,f_,f_,f_,f_,f_,f_,f_,f_,f_,f_,f_,f_,f_,f_,f_,f_,f_,f_,f_,f_,f_,f_,f_,f_,f_,f_,f_,f_,f_,f_,f_,f_,f_]
abbrev impl_RowOk.m4 : Array Bool := #[t_,t_,t_,f_,t_,f_,f_,f_,f_,f_,f_,f_,f_,f_,f_,f_,f_,f_,f_,f_,f_,f_,f_,f_,f_,f_,f_,f_,f_,f_,f_,f_,f_,f_,f_,f_,f_,f_,f_,f_,f_,f_,f_,f_,f_,f_,f_,f_,f_]
abbrev impl_RowOk.m5 : Array Bool := #[t_,t_,t_,t_,t_,f_,f_,f_,f_,f_,f_,f_,f_,f_,f_,f_,f_,f_,f_,f_,f_,f_,f_,f_,f_,f_,f_,f_,f_,f_,f_,f_,f_,f_,f_,f_,f_,f_,f_,f_,f_,f_,f_,f_,f_,f_,f_,f_,f_]
abbrev impl_RowOk.m6 : Array Bool := #[t_,t_,t_,t_,t_,t_,f_,f_,f_,f_,f_,f_,f_,f_,f_,f_,f_,f_,f_,f_,f_,f_,f_,f_,f_,f_,f_,f_,f_,f_,f_,f_,f_,f_,f_,f_,f_,f_,f_,f_,f_,f_,f_,f_,f_,f_,f_,f_,f_]
abbrev impl_RowOk.m7 : Array Bool := #[t_,t_,t_,t_,t_,t_,t_,f_,f_,f_,f_,f_,f_,f_,f_,f_,f_,f_,f_,f_,f_,f_,f_,f_,f_,f_,f_,f_,f_,f_,f_,f_,f_,f_,f_,f_,f_,f_,f_,f_,f_,f_,f_,f_,f_,f_,f_,f_,f_]
abbrev impl_RowOk.m8 : Array Bool := #[t_,t_,t_,t_,t_,t_,t_,t_,f_,f_,f_,f_,f_,f_,f_,f_,f_,f_,f_,f_,f_,f_,f_,f_,f_,f_,f_,f_,f_,f_,f_,f_,f_,f_,f_,f_,f_,f_,f_,f_,f_,f_,f_,f_,f_,f_,f_,f_,f_]
abbrev impl_RowOk.m9 : Array Bool := #[t_,t_,t_,t_,t_,t_,t_,t_,t_,f_,f_,f_,f_,f_,f_,f_,f_,f_,f_,f_,f_,f_,f_,f_,f_,f_,f_,f_,f_,f_,f_,f_,f_,f_,f_,f_,f_,f_,f_,f_,f_,f_,f_,f_,f_,f_,f_,f_,f_]
abbrev impl_RowOk.m10 : Array Bool := #[t_,t_,t_,t_,t_,t_,t_,t_,t_,t_,f_,f_,f_,f_,f_,f_,f_,f_,f_,f_,f_,f_,f_,f_,f_,f_,f_,f_,f_,f_,f_,f_,f_,f_,f_,f_,f_,f_,f_,f_,f_,f_,f_,f_,f_,f_,f_,f_,f_]
abbrev impl_RowOk.m11 : Array Bool := #[t_,t_,t_,t_,t_,t_,t_,t_,t_,t_,t_,f_,f_,f_,f_,f_,f_,f_,f_,f_,f_,f_,f_,f_,f_,f_,f_,f_,f_,f_,f_,f_,f_,f_,f_,f_,f_,f_,f_,f_,f_,f_,f_,f_,f_,f_,f_,f_,f_]
abbrev impl_RowOk.m12 : Array Bool := #[t_,t_,t_,t_,t_,t_,t_,t_,t_,t_,t_,t_,f_,f_,f_,f_,f_,f_,f_,f_,f_,f_,f_,f_,f_,f_,f_,f_,f_,f_,f_,f_,f_,f_,f_,f_,f_,f_,f_,f_,f_,f_,f_,f_,f_,f_,f_,f_,f_]
abbrev impl_RowOk.m13 : Array Bool := #[t_,t_,t_,t_,t_,t_,t_,t_,t_,t_,t_,t_,t_,f_,f_,f_,f_,f_,f_,f_,f_,f_,f_,f_,f_,f_,f_,f_,f_,f_,f_,f_,f_,f_,f_,f_,f_,f_,f_,f_,f_,f_,f_,f_,f_,f_,f_,f_,f_]
abbrev impl_RowOk.m14 : Array Bool := #[t_,t_,t_,t_,t_,t_,t_,t_,t_,t_,t_,t_,t_,t_,f_,f_,f_,f_,f_,f_,f_,f_,f_,f_,f_,f_,f_,f_,f_,f_,f_,f_,f_,f_,f_,f_,f_,f_,f_,f_,f_,f_,f_,f_,f_,f_,f_,f_,f_]
abbrev impl_RowOk.m15 : Array Bool := #[t_,t_,t_,t_,t_,t_,t_,t_,t_,t_,t_,t_,t_,t_,f_,t_,f_,f_,f_,f_,f_,f_,f_,f_,f_,f_,f_,f_,f_,f_,f_,f_,f_,f_,f_,f_,f_,f_,f_,f_,f_,f_,f_,f_,f_,f_,f_,f_,f_]
abbrev impl_RowOk.m16 : Array Bool := #[t_,t_,t_,t_,t_,t_,t_,t_,t_,t_,t_,t_,t_,t_,f_,t_,t_,f_,f_,f_,f_,f_,f_,f_,f_,f_,f_,f_,f_,f_,f_,f_,f_,f_,f_,f_,f_,f_,f_,f_,f_,f_,f_,f_,f_,f_,f_,f_,f_]
abbrev impl_RowOk.m17 : Array Bool := #[t_,t_,t_,t_,t_,t_,t_,t_,t_,t_,t_,t_,t_,t_,f_,t_,t_,f_,f_,f_,t_,f_,f_,f_,f_,f_,f_,f_,f_,f_,f_,f_,f_,f_,f_,f_,f_,f_,f_,f_,f_,f_,f_,f_,f_,f_,f_,f_,f_]
abbrev impl_RowOk.m18 : Array Bool := #[t_,t_,t_,t_,t_,t_,t_,t_,t_,t_,t_,t_,t_,t_,t_,t_,t_,f_,f_,f_,t_,f_,f_,f_,f_,f_,f_,f_,f_,f_,f_,f_,f_,f_,f_,f_,f_,f_,f_,f_,f_,f_,f_,f_,f_,f_,f_,f_,f_]
abbrev impl_RowOk.m19 : Array Bool := #[t_,t_,t_,t_,t_,t_,t_,t_,t_,t_,t_,t_,t_,t_,t_,t_,t_,t_,f_,f_,t_,f_,f_,f_,f_,f_,f_,f_,f_,f_,f_,f_,f_,f_,f_,f_,f_,f_,f_,f_,f_,f_,f_,f_,f_,f_,f_,f_,f_]
abbrev impl_RowOk.m20 : Array Bool := #[t_,t_,t_,t_,t_,t_,t_,t_,t_,t_,t_,t_,t_,t_,t_,t_,t_,t_,t_,f_,t_,f_,f_,f_,f_,f_,f_,f_,f_,f_,f_,f_,f_,f_,f_,f_,f_,f_,f_,f_,f_,f_,f_,f_,f_,f_,f_,f_,f_]
abbrev impl_RowOk.m21 : Array Bool := #[t_,t_,t_,t_,t_,t_,t_,t_,t_,t_,t_,t_,t_,t_,t_,t_,t_,t_,t_,t_,t_,f_,f_,f_,f_,f_,f_,f_,f_,f_,f_,f_,f_,f_,f_,f_,f_,f_,f_,f_,f_,f_,f_,f_,f_,f_,f_,f_,f_]
abbrev impl_RowOk.m22 : Array Bool := #[t_,t_,t_,t_,t_,t_,t_,t_,t_,t_,t_,t_,t_,t_,t_,t_,t_,t_,t_,t_,t_,t_,f_,f_,f_,f_,f_,f_,f_,f_,f_,f_,f_,f_,f_,f_,f_,f_,f_,f_,f_,f_,f_,f_,f_,f_,f_,f_,f_]
abbrev impl_RowOk.m23 : Array Bool := #[t_,t_,t_,t_,t_,t_,t_,t_,t_,t_,t_,t_,t_,t_,t_,t_,t_,t_,t_,t_,t_,t_,t_,f_,f_,f_,f_,f_,f_,f_,f_,f_,f_,f_,f_,f_,f_,f_,f_,f_,f_,f_,f_,f_,f_,f_,f_,f_,f_]
abbrev impl_RowOk.m24 : Array Bool := #[t_,t_,t_,t_,t_,t_,t_,t_,t_,t_,t_,t_,t_,t_,t_,t_,t_,t_,t_,t_,t_,t_,t_,t_,f_,f_,f_,f_,f_,f_,f_,f_,f_,f_,f_,f_,f_,f_,f_,f_,f_,f_,f_,f_,f_,f_,f_,f_,f_]
abbrev impl_RowOk.m25 : Array Bool := #[t_,t_,t_,t_,t_,t_,t_,t_,t_,t_,t_,t_,t_,t_,t_,t_,t_,t_,t_,t_,t_,t_,t_,t_,t_,f_,f_,f_,f_,f_,f_,f_,f_,f_,f_,f_,f_,f_,f_,f_,f_,f_,f_,f_,f_,f_,f_,f_,f_]
abbrev impl_RowOk.m26 : Array Bool := #[t_,t_,t_,t_,t_,t_,t_,t_,t_,t_,t_,t_,t_,t_,t_,t_,t_,t_,t_,t_,t_,t_,t_,t_,t_,t_,f_,f_,f_,f_,f_,f_,f_,f_,f_,f_,f_,f_,f_,f_,f_,f_,f_,f_,f_,f_,f_,f_,f_]
abbrev impl_RowOk.m27 : Array Bool := #[t_,t_,t_,t_,t_,t_,t_,t_,t_,t_,t_,t_,t_,t_,t_,t_,t_,t_,t_,t_,t_,t_,t_,t_,t_,t_,t_,f_,f_,f_,f_,f_,f_,f_,f_,f_,f_,f_,f_,f_,f_,f_,f_,f_,f_,f_,f_,f_,f_]
abbrev impl_RowOk.m28 : Array Bool := #[t_,t_,t_,t_,t_,t_,t_,t_,t_,t_,t_,t_,t_,t_,t_,t_,t_,t_,t_,t_,t_,t_,t_,t_,t_,t_,t_,t_,f_,f_,f_,f_,f_,f_,f_,f_,f_,f_,f_,f_,f_,f_,f_,f_,f_,f_,f_,f_,f_]
abbrev impl_RowOk.m29 : Array Bool := #[t_,t_,t_,t_,t_,t_,t_,t_,t_,t_,t_,t_,t_,t_,t_,t_,t_,t_,t_,t_,t_,t_,t_,t_,t_,t_,t_,t_,t_,f_,f_,f_,f_,f_,f_,f_,f_,f_,f_,f_,f_,f_,f_,f_,f_,f_,f_,f_,f_]
abbrev impl_RowOk.m30 : Array Bool := #[t_,t_,t_,t_,t_,t_,t_,t_,t_,t_,t_,t_,t_,t_,t_,t_,t_,t_,t_,t_,t_,t_,t_,t_,t_,t_,t_,t_,t_,t_,f_,f_,f_,f_,f_,f_,f_,f_,f_,f_,f_,f_,f_,f_,f_,f_,f_,f_,f_]
abbrev impl_RowOk.m31 : Array Bool := #[t_,t_,t_,t_,t_,t_,t_,t_,t_,t_,t_,t_,t_,t_,t_,t_,t_,t_,t_,t_,t_,t_,t_,t_,t_,t_,t_,t_,t_,t_,t_,f_,f_,f_,f_,f_,f_,f_,f_,f_,f_,f_,f_,f_,f_,f_,f_,f_,f_]
abbrev impl_RowOk.m32 : Array Bool := #[t_,t_,t_,t_,t_,t_,t_,t_,t_,t_,t_,t_,t_,t_,t_,t_,t_,t_,t_,t_,t_,t_,t_,t_,t_,t_,t_,t_,t_,t_,t_,t_,f_,f_,f_,f_,f_,f_,f_,f_,f_,f_,f_,f_,f_,f_,f_,f_,f_]
abbrev impl_RowOk.m33 : Array Bool := #[t_,t_,t_,t_,t_,t_,t_,t_,t_,t_,t_,t_,t_,t_,t_,t_,t_,t_,t_,t_,t_,t_,t_,t_,t_,t_,t_,t_,t_,t_,t_,t_,t_,f_,f_,f_,f_,f_,f_,f_,f_,f_,f_,f_,f_,f_,f_,f_,f_]
abbrev impl_RowOk.m34 : Array Bool := #[t_,t_,t_,t_,t_,t_,t_,t_,t_,t_,t_,t_,t_,t_,t_,t_,t_,t_,t_,t_,t_,t_,t_,t_,t_,t_,t_,t_,t_,t_,t_,t_,t_,t_,f_,f_,f_,f_,f_,f_,f_,f_,f_,f_,f_,f_,f_,f_,f_]
abbrev impl_RowOk.m35 : Array Bool := #[t_,t_,t_,t_,t_,t_,t_,t_,t_,t_,t_,t_,t_,t_,t_,t_,t_,t_,t_,t_,t_,t_,t_,t_,t_,t_,t_,t_,t_,t_,t_,t_,t_,t_,t_,f_,f_,f_,f_,f_,f_,f_,f_,f_,f_,f_,f_,f_,f_]
abbrev impl_RowOk.m36 : Array Bool := #[t_,t_,t_,t_,t_,t_,t_,t_,t_,t_,t_,t_,t_,t_,t_,t_,t_,t_,t_,t_,t_,t_,t_,t_,t_,t_,t_,t_,t_,t_,t_,t_,t_,t_,t_,t_,f_,f_,f_,f_,f_,f_,f_,f_,f_,f_,f_,f_,f_]
abbrev impl_RowOk.m37 : Array Bool := #[t_,t_,t_,t_,t_,t_,t_,t_,t_,t_,t_,t_,t_,t_,t_,t_,t_,t_,t_,t_,t_,t_,t_,t_,t_,t_,t_,t_,t_,t_,t_,t_,t_,t_,t_,t_,t_,f_,f_,f_,f_,f_,f_,f_,f_,f_,f_,f_,f_]
abbrev impl_RowOk.m38 : Array Bool := #[t_,t_,t_,t_,t_,t_,t_,t_,t_,t_,t_,t_,t_,t_,t_,t_,t_,t_,t_,t_,t_,t_,t_,t_,t_,t_,t_,t_,t_,t_,t_,t_,t_,t_,t_,t_,t_,t_,f_,f_,f_,f_,f_,f_,f_,f_,f_,f_,f_]
abbrev impl_RowOk.m39 : Array Bool := #[t_,t_,t_,t_,t_,t_,t_,t_,t_,t_,t_,t_,t_,t_,t_,t_,t_,t_,t_,t_,t_,t_,t_,t_,t_,t_,t_,t_,t_,t_,t_,t_,t_,t_,t_,t_,t_,t_,t_,f_,f_,f_,f_,f_,f_,f_,f_,f_,f_]
abbrev impl_RowOk.m40 : Array Bool := #[t_,t_,t_,t_,t_,t_,t_,t_,t_,t_,t_,t_,t_,t_,t_,t_,t_,t_,t_,t_,t_,t_,t_,t_,t_,t_,t_,t_,t_,t_,t_,t_,t_,t_,t_,t_,t_,t_,t_,t_,f_,f_,f_,f_,f_,f_,f_,f_,f_]
abbrev impl_RowOk.m41 : Array Bool := #[t_,t_,t_,t_,t_,t_,t_,t_,t_,t_,t_,t_,t_,t_,t_,t_,t_,t_,t_,t_,t_,t_,t_,t_,t_,t_,t_,t_,t_,t_,t_,t_,t_,t_,t_,t_,t_,t_,t_,t_,t_,f_,f_,f_,f_,f_,f_,f_,f_]
abbrev impl_RowOk.m42 : Array Bool := #[t_,t_,t_,t_,t_,t_,t_,t_,t_,t_,t_,t_,t_,t_,t_,t_,t_,t_,t_,t_,t_,t_,t_,t_,t_,t_,t_,t_,t_,t_,t_,t_,t_,t_,t_,t_,t_,t_,t_,t_,t_,t_,f_,f_,f_,f_,f_,f_,f_]
abbrev impl_RowOk.m43 : Array Bool := #[t_,t_,t_,t_,t_,t_,t_,t_,t_,t_,t_,t_,t_,t_,t_,t_,t_,t_,t_,t_,t_,t_,t_,t_,t_,t_,t_,t_,t_,t_,t_,t_,t_,t_,t_,t_,t_,t_,t_,t_,t_,t_,t_,f_,f_,f_,f_,f_,f_]
abbrev impl_RowOk.m44 : Array Bool := #[t_,t_,t_,t_,t_,t_,t_,t_,t_,t_,t_,t_,t_,t_,t_,t_,t_,t_,t_,t_,t_,t_,t_,t_,t_,t_,t_,t_,t_,t_,t_,t_,t_,t_,t_,t_,t_,t_,t_,t_,t_,t_,t_,t_,f_,f_,f_,f_,f_]
abbrev impl_RowOk.m45 : Array Bool := #[t_,t_,t_,t_,t_,t_,t_,t_,t_,t_,t_,t_,t_,t_,t_,t_,t_,t_,t_,t_,t_,t_,t_,t_,t_,t_,t_,t_,t_,t_,t_,t_,t_,t_,t_,t_,t_,t_,t_,t_,t_,t_,t_,t_,t_,f_,f_,f_,f_]
abbrev impl_RowOk.m46 : Array Bool := #[t_,t_,t_,t_,t_,t_,t_,t_,t_,t_,t_,t_,t_,t_,t_,t_,t_,t_,t_,t_,t_,t_,t_,t_,t_,t_,t_,t_,t_,t_,t_,t_,t_,t_,t_,t_,t_,t_,t_,t_,t_,t_,t_,t_,t_,t_,f_,f_,f_]
abbrev impl_RowOk.m47 : Array Bool := #[t_,t_,t_,t_,t_,t_,t_,t_,t_,t_,t_,t_,t_,t_,t_,t_,t_,t_,t_,t_,t_,t_,t_,t_,t_,t_,t_,t_,t_,t_,t_,t_,t_,t_,t_,t_,t_,t_,t_,t_,t_,t_,t_,t_,t_,t_,t_,f_,f_]
abbrev impl_RowOk.m48 : Array Bool := #[t_,t_,t_,t_,t_,t_,t_,t_,t_,t_,t_,t_,t_,t_,t_,t_,t_,t_,t_,t_,t_,t_,t_,t_,t_,t_,t_,t_,t_,t_,t_,t_,t_,t_,t_,t_,t_,t_,t_,t_,t_,t_,t_,t_,t_,t_,t_,t_,f_]
abbrev impl_RowOk.m49 : Array Bool := #[t_,t_,t_,t_,t_,t_,t_,t_,t_,t_,t_,t_,t_,t_,t_,t_,t_,t_,t_,t_,t_,t_,t_,t_,t_,t_,t_,t_,t_,t_,t_,t_,t_,t_,t_,t_,t_,t_,t_,t_,t_,t_,t_,t_,t_,t_,t_,t_,t_]
abbrev impl_RowOk.m50 : Array Bool := #[t_,t_,t_,t_,t_,t_,t_,t_,t_,t_,t_,t_,t_,t_,t_,f_,f_,f_,f_,f_,f_,f_,f_,f_,f_,f_,f_,f_,f_,f_,f_,f_,f_,f_,f_,f_,f_,f_,f_,f_,f_,f_,f_,f_,f_,f_,f_,f_,f_]
abbrev impl_RowOk.m51 : Array Bool := #[t_,t_,t_,t_,t_,t_,t_,t_,t_,t_,t_,t_,t_,t_,t_,t_,f_,f_,f_,f_,f_,f_,f_,f_,f_,f_,f_,f_,f_,f_,f_,f_,f_,f_,f_,f_,f_,f_,f_,f_,f_,f_,f_,f_,f_,f_,f_,f_,f_]
abbrev impl_RowOk.m52 : Array Bool := #[t_,t_,t_,t_,t_,t_,t_,t_,t_,t_,t_,t_,t_,t_,t_,t_,t_,f_,f_,f_,f_,f_,f_,f_,f_,f_,f_,f_,f_,f_,f_,f_,f_,f_,f_,f_,f_,f_,f_,f_,f_,f_,f_,f_,f_,f_,f_,f_,f_]
abbrev impl_RowOk.m53 : Array Bool := #[t_,t_,t_,t_,t_,t_,t_,t_,t_,t_,t_,t_,t_,t_,t_,t_,t_,t_,f_,f_,f_,f_,f_,f_,f_,f_,f_,f_,f_,f_,f_,f_,f_,f_,f_,f_,f_,f_,f_,f_,f_,f_,f_,f_,f_,f_,f_,f_,f_]
abbrev impl_RowOk.m54 : Array Bool := #[t_,t_,t_,t_,t_,t_,t_,t_,t_,t_,t_,t_,t_,t_,t_,t_,t_,t_,t_,f_,f_,f_,f_,f_,f_,f_,f_,f_,f_,f_,f_,f_,f_,f_,f_,f_,f_,f_,f_,f_,f_,f_,f_,f_,f_,f_,f_,f_,f_]
abbrev impl_RowOk.m55 : Array Bool := #[t_,t_,t_,t_,t_,t_,t_,t_,t_,t_,t_,t_,t_,t_,t_,t_,t_,t_,t_,t_,f_,f_,f_,f_,f_,f_,f_,f_,f_,f_,f_,f_,f_,f_,f_,f_,f_,f_,f_,f_,f_,f_,f_,f_,f_,f_,f_,f_,f_]
mutual
def impl_RowOk.j0 : Nat → Bool → Int → Int → List (S_Item) → Option (Bool)
 | 0, _, _, _, _ => none
 | k + 1, x21, x547000, x547001, x547002 => if x21 = true then (some false) else (impl_RowOk.j1 k x547000 x547001 x547002)
def impl_RowOk.j1 : Nat → Int → Int → List (S_Item) → Option (Bool)
 | 0, _, _, _ => none
 | k + 1, x547000, x547001, x547002 => impl_RowOk.l0 k x547002 (x547002.length : Int) 0 x547000 x547001 x547002
def impl_RowOk.l0 : Nat → List (S_Item) → Int → Int → Int → Int → List (S_Item) → Option (Bool)
 | 0, _, _, _, _, _, _ => none
 | k + 1, x23, x24, x25, x547000, x547001, x547002 => if x25 < x24 then (impl_RowOk.j3 k x23 x24 x25 x547000 x547001 x547002) else (some true)
def impl_RowOk.j3 : Nat → List (S_Item) → Int → Int → Int → Int → List (S_Item) → Option (Bool)
 | 0, _, _, _, _, _, _ => none
 | k + 1, x23, x24, x25, x547000, x547001, x547002 => if 0 ≤ x25 then (if x25 < (x23.length : Int) then ((impl_within.f ((rd_Item x23 x25).f0) x547000 (wrap64 (x547001 - 1))).bind fun t550 => (if t550 = true then (if x25 > 0 then (if 0 ≤ (wrap64 (x25 - 1)) then (if (wrap64 (x25 - 1)) < (x547002.length : Int) then (if ((rd_Item x547002 (wrap64 (x25 - 1))).f0) ≥ ((rd_Item x23 x25).f0) then (impl_RowOk.j4 k x23 x24 x25 true x547000 x547001 x547002) else ((impl_wordsOk.f k ((rd_Item x23 x25).f1)).bind fun t552 => (if t552 = true then ((impl_wordsOk.f k ((rd_Item x23 x25).f2)).bind fun t553 => (if t553 = true then ((impl_within.f ((rd_Item x23 x25).f3) 0 3).bind fun t554 => (if t554 = true then ((impl_within.f ((rd_Item x23 x25).f4) 0 100000).bind fun t555 => (impl_RowOk.j4 k x23 x24 x25 (!t555) x547000 x547001 x547002)) else (impl_RowOk.j4 k x23 x24 x25 true x547000 x547001 x547002))) else (impl_RowOk.j4 k x23 x24 x25 true x547000 x547001 x547002))) else (impl_RowOk.j4 k x23 x24 x25 true x547000 x547001 x547002)))) else (none)) else (none)) else ((impl_wordsOk.f k ((rd_Item x23 x25).f1)).bind fun t556 => (if t556 = true then ((impl_wordsOk.f k ((rd_Item x23 x25).f2)).bind fun t557 => (if t557 = true then ((impl_within.f ((rd_Item x23 x25).f3) 0 3).bind fun t558 => (if t558 = true then ((impl_within.f ((rd_Item x23 x25).f4) 0 100000).bind fun t559 => (impl_RowOk.j4 k x23 x24 x25 (!t559) x547000 x547001 x547002)) else (impl_RowOk.j4 k x23 x24 x25 true x547000 x547001 x547002))) else (impl_RowOk.j4 k x23 x24 x25 true x547000 x547001 x547002))) else (impl_RowOk.j4 k x23 x24 x25 true x547000 x547001 x547002)))) else (impl_RowOk.j4 k x23 x24 x25 true x547000 x547001 x547002))) else (none)) else (none)
def impl_RowOk.j4 : Nat → List (S_Item) → Int → Int → Bool → Int → Int → List (S_Item) → Option (Bool)
 | 0, _, _, _, _, _, _, _ => none
 | k + 1, x23, x24, x25, x78, x547000, x547001, x547002 => if x78 = true then (some false) else (impl_RowOk.l0 k x23 x24 (wrap64 (x25 + 1)) x547000 x547001 x547002)
end
def impl_RowOk.f (k : Nat) (a0_0 : Int) (a0_1 : Int) (l0_2 : List (S_Item)) : Option (Bool) := (impl_within.f a0_0 0 a0_1).bind fun t547 => (if t547 = true then (if a0_1 > 100000 then (impl_RowOk.j0 k true a0_0 a0_1 l0_2) else (impl_RowOk.j0 k (decide ((l0_2.length : Int) > 80)) a0_0 a0_1 l0_2)) else (impl_RowOk.j0 k true a0_0 a0_1 l0_2))
theorem impl_RowOk.mono_l : ∀ k, (∀ y0 y1 y2 y3, LeO (impl_RowOk.j0 k y0 y1 y2 y3) (impl_RowOk.j0 (k + 1) y0 y1 y2 y3)) ∧ (∀ y0 y1 y2, LeO (impl_RowOk.j1 k y0 y1 y2) (impl_RowOk.j1 (k + 1) y0 y1 y2)) ∧ (∀ y0 y1 y2 y3 y4 y5, LeO (impl_RowOk.l0 k y0 y1 y2 y3 y4 y5) (impl_RowOk.l0 (k + 1) y0 y1 y2 y3 y4 y5)) ∧ (∀ y0 y1 y2 y3 y4 y5, LeO (impl_RowOk.j3 k y0 y1 y2 y3 y4 y5) (impl_RowOk.j3 (k + 1) y0 y1 y2 y3 y4 y5)) ∧ (∀ y0 y1 y2 y3 y4 y5 y6, LeO (impl_RowOk.j4 k y0 y1 y2 y3 y4 y5 y6) (impl_RowOk.j4 (k + 1) y0 y1 y2 y3 y4 y5 y6))
 | 0 => ⟨fun _ _ _ _ r h => by simp [impl_RowOk.j0] at h, fun _ _ _ r h => by simp [impl_RowOk.j1] at h, fun _ _ _ _ _ _ r h => by simp [impl_RowOk.l0] at h, fun _ _ _ _ _ _ r h => by simp [impl_RowOk.j3] at h, fun _ _ _ _ _ _ _ r h => by simp [impl_RowOk.j4] at h⟩
 | k + 1 => by
  obtain ⟨ih0, ih1, ih2, ih3, ih4⟩ := impl_RowOk.mono_l k
  refine ⟨?_, ?_, ?_, ?_, ?_⟩
  ·
   intro y0 y1 y2 y3
   unfold impl_RowOk.j0
   exact qbh0_
  ·
   intro y0 y1 y2
   unfold impl_RowOk.j1
   exact qbh0_
  ·
   intro y0 y1 y2 y3 y4 y5
   unfold impl_RowOk.l0
   exact qbh0_
  ·
   intro y0 y1 y2 y3 y4 y5
   unfold impl_RowOk.j3
   exact qbh0_
  ·
   intro y0 y1 y2 y3 y4 y5 y6
   unfold impl_RowOk.j4
   exact qbh0_
theorem impl_RowOk.mono : ∀ a0 a1 a2 k, LeO (impl_RowOk.f k a0 a1 a2) (impl_RowOk.f (k + 1) a0 a1 a2) := by
 intro a0 a1 a2 k
 obtain ⟨ih0, ih1, ih2, ih3, ih4⟩ := impl_RowOk.mono_l k
 unfold impl_RowOk.f
 exact qbh0_
def impl_RowOk.T6 : Bool × List (List Nat × List Nat) := (true, [([], []), ([0], [0]), ([], []), ([2], [2]), ([], []), ([4], [4]), ([5], [5]), ([1, 3, 6], [1, 3, 6]), ([7], [7]), ([8, 7], [8]), ([9], [9]), ([10, 9], [9, 10]), ([11, 9, 9], [9, 11]), ([12], [12]), ([13, 12], [12, 13]), ([12], [12]), ([15, 12], [12, 15]), ([14, 16, 12], [12, 14, 16]), ([17, 12], [12, 17]), ([18, 12], [12, 18]), ([12], [12]), ([20, 12], [12, 20]), ([19, 21, 12], [12, 19, 21]), ([12, 22, 9], [9, 12, 22]), ([9, 23], [9, 23]), ([24, 12], [24]), ([25], [25]), ([26, 25], [25, 26]), ([27, 25, 25], [25, 27]), ([28, 25], [25, 28]), ([25, 29], [25, 29]), ([30, 28], [30]), ([31], [31]), ([32, 31], [31, 32]), ([33, 31, 31], [31, 33]), ([34, 31], [31, 34]), ([31, 35], [31, 35]), ([36, 34], [36]), ([37], [37]), ([38, 37], [37, 38]), ([39, 37, 37], [37, 39]), ([40, 37], [37, 40]), ([37, 41], [37, 41]), ([42, 40], [42]), ([43], [43]), ([44, 43], [43, 44]), ([45, 43, 43], [43, 45]), ([46, 43], [43, 46]), ([43, 47], [43, 47])])
def impl_RowOk.B6 : List Nat := [0, 1, 0, 4, 0, 16, 48, 127, 255, 511, 1023, 2047, 4095, 8191, 16383, 8191, 40959, 131071, 262143, 524287, 8191, 1056767, 4194303, 8388607, 16777215, 33554431, 67108863, 134217727, 268435455, 536870911, 1073741823, 2147483647, 4294967295, 8589934591, 17179869183, 34359738367, 68719476735, 137438953471, 274877906943, 549755813887, 1099511627775, 2199023255551, 4398046511103, 8796093022207, 17592186044415, 35184372088831, 70368744177663, 140737488355327, 281474976710655]
theorem impl_RowOk.tab6 : rtab .any (opsOf Try.f14 6) = impl_RowOk.T6 := by kernel_rfl
theorem impl_RowOk.bits6 : waitsOk impl_RowOk.T6.2 impl_RowOk.B6 = true := by kernel_rfl
set_option maxHeartbeats 8000000 in
set_option maxRecDepth 100000 in
theorem impl_RowOk.calls (k : Nat) (a0_0 : Int) (a0_1 : Int) (A0_2 : Option Addr) (c0_2 : Nat) (l0_2 : List (S_Item)) (r : Bool) (w : World) (hr0_2 : Kd.C k_Item w A0_2 l0_2.length l0_2) (hc0_2 : l0_2.length ≤ c0_2) (h : impl_RowOk.f k a0_0 a0_1 l0_2 = some r) :
 Calls Try.prog 14 #[.agg #[.int .i64 a0_0, .int .i64 a0_1, .slice A0_2 l0_2.length c0_2]] w fun e w' => e = .returned (.bool r) ∧ Below w.heap.size w w' := by
 have hu26 := Try.underlying26
 have hu33 := Try.underlying33
 have HR0_2 := Aside0.mk hr0_2
 have HC0_2 := Aside0.mk hc0_2
 clear hr0_2 hc0_2
 have HB := Aside0.mk (Below.refl w.heap.size w)
 have H : ((impl_within.f a0_0 0 a0_1).bind fun t547 => (if t547 = true then (if a0_1 > 100000 then (impl_RowOk.j0 k true a0_0 a0_1 l0_2) else (impl_RowOk.j0 k (decide ((l0_2.length : Int) > 80)) a0_0 a0_1 l0_2)) else (impl_RowOk.j0 k true a0_0 a0_1 l0_2))) = some r := h
 clear h
 have HC2 := Aside0.mk H
 clear H
 go_enter Try.func14, Try.ntmps14
 go_upto_region 1 with (first | ((with_reducible refine gate_dst (N := 1) rfl ?_); (try (refine gate_guard (by rfl) ?_; dsimp only)); refine box_event ?hg (N := 1) ?hd (cs := #[.int .i64 a0_0, .int .i64 a0_1, .slice A0_2 l0_2.length c0_2]) (t := 26) ?hr ?_; (case hd => rfl); (case hg => rfl); (case hr => first | (go_simp; done) | (go_simp; rfl)); intro gb546 hg w3 hbox hb; have BK546 := Aside0.mk (hbox); have GW546 := cz_ HB hg; have GE546 := cz_ HB hg; replace HB := ch_ HB hb; clear hb hbox hg))
 (try simp only [Act.put, List.setIfInBounds_toArray, List.set_cons_zero, List.set_cons_succ])
 go_cut [21] (fun v21 wc => ∃ (kq : Nat) (x21_1 : Bool), v21 = .bool x21_1 ∧ Aside0 (impl_RowOk.j0 kq x21_1 a0_0 a0_1 l0_2 = some r) ∧ Aside0 (kq ≤ k) ∧ Aside0 (wc.heap[gb546]? = some (.cells #[.int .i64 a0_0, .int .i64 a0_1, (.slice A0_2 l0_2.length c0_2)] 26 (0, 0))) ∧ Aside0 (Below w.heap.size w wc))
 case first =>
  have H := HC2.out
  clear HC2
  replace H := Option.bind_eq_some_iff.mp H
  obtain ⟨t547, A40, H⟩ := H
  replace H : (if t547 = true then (if a0_1 > 100000 then (impl_RowOk.j0 k true a0_0 a0_1 l0_2) else (impl_RowOk.j0 k (decide ((l0_2.length : Int) > 80)) a0_0 a0_1 l0_2)) else (impl_RowOk.j0 k true a0_0 a0_1 l0_2)) = some r := H
  have A4 := Aside0.mk A40
  clear A40
  by_cases c5 : t547 = true
  ·
   subst c5
   have H1 : (if a0_1 > 100000 then (impl_RowOk.j0 k true a0_0 a0_1 l0_2) else (impl_RowOk.j0 k (decide ((l0_2.length : Int) > 80)) a0_0 a0_1 l0_2)) = some r := by rw [if_pos rfl] at H; exact H
   clear H
   have H := H1
   clear H1
   by_cases c6 : a0_1 > 100000
   ·
    rw [if_pos c6] at H
    have c6b0 : decide (100000 < a0_1) = true := decide_eq_true c6
    clear c6
    (first | rw [c6b0] | (simp only [i64_w, i32_w]; rw [c6b0]) | rw [c6b4] | rw [c6b3] | skip)
    have H' := Aside0.mk H
    clear H
    have hcz7_0 : w3.cell? ⟨gb546, 0, none⟩ = some (.int .i64 a0_0) := bc_ BK546 0
    have hcz7_1 : w3.cell? ⟨gb546, 1, none⟩ = some (.int .i64 a0_1) := bc_ BK546 1
    have hcz7_2 : w3.cell? ⟨gb546, 2, none⟩ = some (.slice A0_2 l0_2.length c0_2) := bc_ BK546 2
    have hfz7_0 := blk_frozen BK546.out 0
    have hfz7_1 := blk_frozen BK546.out 1
    have hfz7_2 := blk_frozen BK546.out 2
    go_wp2_with (first | ((with_reducible refine gate_callee (f := 58) rfl ?_); refine goesL_ (some 9) rfl rfl Try.func58 (by kernel_rfl) rfl #[.int .i64 a0_0, .int .i64 0, .int .i64 a0_1] rfl sm_ ?_; (with_reducible refine (impl_within.calls a0_0 0 a0_1 true _ A4.out).mono ?_); rintro e w' ⟨rfl, ⟨nd, rfl⟩⟩; refine ⟨_, rfl, ?_⟩))
    go_meet
    case rel => exact ⟨_, (true), (qb1_), H', ⟨by first | omega | exact Nat.le_refl _⟩, ⟨bq_ BK546.out⟩, ⟨hb_ HB.out⟩⟩
   ·
    rw [if_neg c6] at H
    have c6b0 : decide (100000 < a0_1) = false := decide_eq_false c6
    clear c6
    (first | rw [c6b0] | (simp only [i64_w, i32_w]; rw [c6b0]) | rw [c6b4] | rw [c6b3] | skip)
    have H' := Aside0.mk H
    clear H
    have hcz8_0 : w3.cell? ⟨gb546, 0, none⟩ = some (.int .i64 a0_0) := bc_ BK546 0
    have hcz8_1 : w3.cell? ⟨gb546, 1, none⟩ = some (.int .i64 a0_1) := bc_ BK546 1
    have hcz8_2 : w3.cell? ⟨gb546, 2, none⟩ = some (.slice A0_2 l0_2.length c0_2) := bc_ BK546 2
    have hfz8_0 := blk_frozen BK546.out 0
    have hfz8_1 := blk_frozen BK546.out 1
    have hfz8_2 := blk_frozen BK546.out 2
    go_wp2_with (first | ((with_reducible refine gate_callee (f := 58) rfl ?_); refine goesL_ (some 9) rfl rfl Try.func58 (by kernel_rfl) rfl #[.int .i64 a0_0, .int .i64 0, .int .i64 a0_1] rfl sm_ ?_; (with_reducible refine (impl_within.calls a0_0 0 a0_1 true _ A4.out).mono ?_); rintro e w' ⟨rfl, ⟨nd, rfl⟩⟩; refine ⟨_, rfl, ?_⟩))
    go_meet
    case rel => exact ⟨_, (decide ((l0_2.length : Int) > 80)), (qb1_), H', ⟨by first | omega | exact Nat.le_refl _⟩, ⟨bq_ BK546.out⟩, ⟨hb_ HB.out⟩⟩
  ·
   replace c5 := Bool.eq_false_iff.mpr c5
   subst c5
   have H1 : (impl_RowOk.j0 k true a0_0 a0_1 l0_2) = some r := by rw [if_neg (show ¬ (false = true) by decide)] at H; exact H
   clear H
   have H := H1
   clear H1
   have H' := Aside0.mk H
   clear H
   have hcz9_0 : w3.cell? ⟨gb546, 0, none⟩ = some (.int .i64 a0_0) := bc_ BK546 0
   have hcz9_1 : w3.cell? ⟨gb546, 1, none⟩ = some (.int .i64 a0_1) := bc_ BK546 1
   have hcz9_2 : w3.cell? ⟨gb546, 2, none⟩ = some (.slice A0_2 l0_2.length c0_2) := bc_ BK546 2
   have hfz9_0 := blk_frozen BK546.out 0
   have hfz9_1 := blk_frozen BK546.out 1
   have hfz9_2 := blk_frozen BK546.out 2
   go_wp2_with (first | ((with_reducible refine gate_callee (f := 58) rfl ?_); refine goesL_ (some 9) rfl rfl Try.func58 (by kernel_rfl) rfl #[.int .i64 a0_0, .int .i64 0, .int .i64 a0_1] rfl sm_ ?_; (with_reducible refine (impl_within.calls a0_0 0 a0_1 false _ A4.out).mono ?_); rintro e w' ⟨rfl, ⟨nd, rfl⟩⟩; refine ⟨_, rfl, ?_⟩))
   go_meet
   case rel => exact ⟨_, (true), (qb1_), H', ⟨by first | omega | exact Nat.le_refl _⟩, ⟨bq_ BK546.out⟩, ⟨hb_ HB.out⟩⟩
 case rest =>
  clear HC2
  obtain ⟨kq, x21_1, rfl, HA, HJ1, BK546, HB⟩ := hcut
  cases kq with
  | zero => exact absurd HA.out (by simp [impl_RowOk.j0])
  | succ kj1 =>
   have H := HA.out
   clear HA
   simp only [impl_RowOk.j0] at H
   have HC10 := Aside0.mk H
   clear H
   go_upto_if 21 with (fail)
   go_cut [] (fun wc => ∃ (kq : Nat), Aside0 (impl_RowOk.j1 kq a0_0 a0_1 l0_2 = some r) ∧ Aside0 (kq ≤ kj1) ∧ Aside0 (wc.heap[gb546]? = some (.cells #[.int .i64 a0_0, .int .i64 a0_1, (.slice A0_2 l0_2.length c0_2)] 26 (0, 0))) ∧ Aside0 (Below w.heap.size w wc))
   case first =>
    have H := HC10.out
    clear HC10
    by_cases c11 : x21_1 = true
    ·
     subst c11
     have H1 : (some false) = some r := by rw [if_pos rfl] at H; exact H
     clear H
     have H := H1
     clear H1
     obtain rfl := Option.some.inj H
     go_wp2
     go_ret
     exact ⟨er_, hb_ HB.out⟩
    ·
     replace c11 := Bool.eq_false_iff.mpr c11
     subst c11
     have H1 : (impl_RowOk.j1 kj1 a0_0 a0_1 l0_2) = some r := by rw [if_neg (show ¬ (false = true) by decide)] at H; exact H
     clear H
     have H := H1
     clear H1
     have H' := Aside0.mk H
     clear H
     go_wp2
     go_meet
     case rel => exact ⟨_, H', ⟨by have := HJ1.out; first | omega | exact Nat.le_refl _⟩, ⟨bq_ BK546.out⟩, ⟨hb_ HB.out⟩⟩
   case rest =>
    clear HC10
    obtain ⟨kq, HA, HJ9, BK546, HB⟩ := hcut
    cases kq with
    | zero => exact absurd HA.out (by simp [impl_RowOk.j1])
    | succ kj9 =>
     have H := HA.out
     clear HA
     simp only [impl_RowOk.j1] at H
     have H' := Aside0.mk H
     clear H
     have hcz12_0 : wc.cell? ⟨gb546, 0, none⟩ = some (.int .i64 a0_0) := bc_ BK546 0
     have hcz12_1 : wc.cell? ⟨gb546, 1, none⟩ = some (.int .i64 a0_1) := bc_ BK546 1
     have hcz12_2 : wc.cell? ⟨gb546, 2, none⟩ = some (.slice A0_2 l0_2.length c0_2) := bc_ BK546 2
     have hfz12_0 := blk_frozen BK546.out 0
     have hfz12_1 := blk_frozen BK546.out 1
     have hfz12_2 := blk_frozen BK546.out 2
     go_wp2
     go_loopg [25] kj9 (fun kq v25 w' => ∃ (x25_3 : Int), v25 = .int .i64 x25_3 ∧ Aside0 (impl_RowOk.l0 kq l0_2 (l0_2.length : Int) x25_3 a0_0 a0_1 l0_2 = some r) ∧ Aside0 (kq ≤ kj9) ∧ Aside0 (w'.heap[gb546]? = some (.cells #[.int .i64 a0_0, .int .i64 a0_1, (.slice A0_2 l0_2.length c0_2)] 26 (0, 0))) ∧ Aside0 (Below w.heap.size w w'))
     case atStart => exact ⟨(0), (qb1_), H', ⟨Nat.le_refl _⟩, ⟨bq_ BK546.out⟩, ⟨hb_ HB.out⟩⟩
     case round =>
      clear H'
      (try clear hcz12_0); (try clear hcz12_1); (try clear hcz12_2); (try clear hfz12_0); (try clear hfz12_1); (try clear hfz12_2)
      obtain ⟨x25_3, rfl, HA, HK3, BK546, HB⟩ := hrel
      cases gk with
      | zero => exact absurd HA.out (by simp [impl_RowOk.l0])
      | succ k3 =>
       have H := HA.out
       clear HA
       simp only [impl_RowOk.l0] at H
       have HC13 := Aside0.mk H
       clear H
       go_upto_if 26 with (fail)
       go_cut [] (fun wc => ∃ (kq : Nat), Aside0 (impl_RowOk.j3 kq l0_2 (l0_2.length : Int) x25_3 a0_0 a0_1 l0_2 = some r) ∧ Aside0 (kq ≤ k3) ∧ Aside0 (wc.heap[gb546]? = some (.cells #[.int .i64 a0_0, .int .i64 a0_1, (.slice A0_2 l0_2.length c0_2)] 26 (0, 0))) ∧ Aside0 (Below w.heap.size w wc))
       case first =>
        have H := HC13.out
        clear HC13
        by_cases c14 : x25_3 < (l0_2.length : Int)
        ·
         rw [if_pos c14] at H
         have c14b0 : decide (x25_3 < (l0_2.length : Int)) = true := decide_eq_true c14
         clear c14
         (first | rw [c14b0] | (simp only [i64_w, i32_w]; rw [c14b0]) | rw [c14b4] | rw [c14b3] | skip)
         have H' := Aside0.mk H
         clear H
         go_wp2
         go_meet
         case rel => exact ⟨_, H', ⟨by have := HJ1.out; have := HJ9.out; have := HK3.out; first | omega | exact Nat.le_refl _⟩, ⟨bq_ BK546.out⟩, ⟨hb_ HB.out⟩⟩
        ·
         rw [if_neg c14] at H
         have c14b0 : decide (x25_3 < (l0_2.length : Int)) = false := decide_eq_false c14
         clear c14
         (first | rw [c14b0] | (simp only [i64_w, i32_w]; rw [c14b0]) | rw [c14b4] | rw [c14b3] | skip)
         obtain rfl := Option.some.inj H
         go_wp2
         go_ret
         exact ⟨er_, hb_ HB.out⟩
       case rest =>
        clear HC13
        obtain ⟨kq, HA, HJ12, BK546, HB⟩ := hcut
        cases kq with
        | zero => exact absurd HA.out (by simp [impl_RowOk.j3])
        | succ kj12 =>
         have H := HA.out
         clear HA
         simp only [impl_RowOk.j3] at H
         by_cases c15 : 0 ≤ x25_3
         ·
          rw [if_pos c15] at H
          have c15b0 : decide (0 ≤ x25_3) = true := decide_eq_true c15
          clear c15
          by_cases c16 : x25_3 < (l0_2.length : Int)
          ·
           rw [if_pos c16] at H
           have c16b0 : decide (x25_3 < (l0_2.length : Int)) = true := decide_eq_true c16
           clear c16
           have HC17 := Aside0.mk H
           clear H
           have p548 : 0 ≤ (x25_3 : Int) := of_decide_eq_true dt_
           have q548 : x25_3 < (l0_2.length : Int) := of_decide_eq_true dt_
           obtain ⟨ad548, e548, hx548_0, hx548_1, hx548_2, hx548_3, hx548_4⟩ := at_Item HR0_2.out x25_3 p548 q548
           cases e548
           replace hx548_0 := hc_ HB hx548_0
           replace hx548_1 := hc_ HB hx548_1
           replace hx548_2 := hc_ HB hx548_2
           replace hx548_3 := hc_ HB hx548_3
           replace hx548_4 := hc_ HB hx548_4
           replace p548 := eq_true p548
           replace q548 := eq_true q548
           go_upto_region 6 with (first | ((with_reducible refine gate_dst (N := 4) rfl ?_); (try (refine gate_guard (by rfl) ?_; dsimp only)); refine box_event ?hg (N := 4) ?hd (cs := #[.int .i64 0, .string (⟨#[]⟩ : ByteArray), .string (⟨#[]⟩ : ByteArray), .int .i64 0, .int .i64 0]) (t := 33) ?hr ?_; (case hd => rfl); (case hg => rfl); (case hr => first | (go_simp; done) | (go_simp; rfl)); intro gb549 hg w18 hbox hb; have BK549 := Aside0.mk (hbox); have GW549 := cz_ HB hg; have GE549 := cz_ HB hg; have NB546_549 := cn_ BK546 hg; have NB549_546 := cm_ BK546 hg; replace BK546 := cb_ BK546 hb; replace HB := ch_ HB hb; clear hb hbox hg; have hnb19 := NB549_546.out; have hnc19 := NB546_549.out; have hcz20_0 : w18.cell? ⟨gb549, 0, none⟩ = some (.int .i64 0) := bc_ BK549 0; have hcz20_1 : w18.cell? ⟨gb549, 1, none⟩ = some (.string (⟨#[]⟩ : ByteArray)) := bc_ BK549 1; have hcz20_2 : w18.cell? ⟨gb549, 2, none⟩ = some (.string (⟨#[]⟩ : ByteArray)) := bc_ BK549 2; have hcz20_3 : w18.cell? ⟨gb549, 3, none⟩ = some (.int .i64 0) := bc_ BK549 3; have hcz20_4 : w18.cell? ⟨gb549, 4, none⟩ = some (.int .i64 0) := bc_ BK549 4; have hfz20_0 := blk_frozen BK549.out 0; have hfz20_1 := blk_frozen BK549.out 1; have hfz20_2 := blk_frozen BK549.out 2; have hfz20_3 := blk_frozen BK549.out 3; have hfz20_4 := blk_frozen BK549.out 4))
           (try simp only [Act.put, List.setIfInBounds_toArray, List.set_cons_zero, List.set_cons_succ])
           go_cut [78] (fun v78 wc => ∃ (kq : Nat) (x78_16 : Bool), v78 = .bool x78_16 ∧ Aside0 (impl_RowOk.j4 kq l0_2 (l0_2.length : Int) x25_3 x78_16 a0_0 a0_1 l0_2 = some r) ∧ Aside0 (kq ≤ kj12) ∧ Aside0 (wc.heap[gb546]? = some (.cells #[.int .i64 a0_0, .int .i64 a0_1, (.slice (some ad548) l0_2.length c0_2)] 26 (0, 0))) ∧ Aside0 (wc.heap[gb549]? = some (.cells #[.int .i64 ((rd_Item l0_2 x25_3).f0), .string ((rd_Item l0_2 x25_3).f1), .string ((rd_Item l0_2 x25_3).f2), .int .i64 ((rd_Item l0_2 x25_3).f3), .int .i64 ((rd_Item l0_2 x25_3).f4)] 33 (0, 0))) ∧ Aside0 (Below w.heap.size w wc))
           case first =>
            have H := HC17.out
            clear HC17
            replace H := Option.bind_eq_some_iff.mp H
            obtain ⟨t550, A210, H⟩ := H
            replace H : (if t550 = true then (if x25_3 > 0 then (if 0 ≤ (wrap64 (x25_3 - 1)) then (if (wrap64 (x25_3 - 1)) < (l0_2.length : Int) then (if ((rd_Item l0_2 (wrap64 (x25_3 - 1))).f0) ≥ ((rd_Item l0_2 x25_3).f0) then (impl_RowOk.j4 kj12 l0_2 (l0_2.length : Int) x25_3 true a0_0 a0_1 l0_2) else ((impl_wordsOk.f kj12 ((rd_Item l0_2 x25_3).f1)).bind fun t552 => (if t552 = true then ((impl_wordsOk.f kj12 ((rd_Item l0_2 x25_3).f2)).bind fun t553 => (if t553 = true then ((impl_within.f ((rd_Item l0_2 x25_3).f3) 0 3).bind fun t554 => (if t554 = true then ((impl_within.f ((rd_Item l0_2 x25_3).f4) 0 100000).bind fun t555 => (impl_RowOk.j4 kj12 l0_2 (l0_2.length : Int) x25_3 (!t555) a0_0 a0_1 l0_2)) else (impl_RowOk.j4 kj12 l0_2 (l0_2.length : Int) x25_3 true a0_0 a0_1 l0_2))) else (impl_RowOk.j4 kj12 l0_2 (l0_2.length : Int) x25_3 true a0_0 a0_1 l0_2))) else (impl_RowOk.j4 kj12 l0_2 (l0_2.length : Int) x25_3 true a0_0 a0_1 l0_2)))) else (none)) else (none)) else ((impl_wordsOk.f kj12 ((rd_Item l0_2 x25_3).f1)).bind fun t556 => (if t556 = true then ((impl_wordsOk.f kj12 ((rd_Item l0_2 x25_3).f2)).bind fun t557 => (if t557 = true then ((impl_within.f ((rd_Item l0_2 x25_3).f3) 0 3).bind fun t558 => (if t558 = true then ((impl_within.f ((rd_Item l0_2 x25_3).f4) 0 100000).bind fun t559 => (impl_RowOk.j4 kj12 l0_2 (l0_2.length : Int) x25_3 (!t559) a0_0 a0_1 l0_2)) else (impl_RowOk.j4 kj12 l0_2 (l0_2.length : Int) x25_3 true a0_0 a0_1 l0_2))) else (impl_RowOk.j4 kj12 l0_2 (l0_2.length : Int) x25_3 true a0_0 a0_1 l0_2))) else (impl_RowOk.j4 kj12 l0_2 (l0_2.length : Int) x25_3 true a0_0 a0_1 l0_2)))) else (impl_RowOk.j4 kj12 l0_2 (l0_2.length : Int) x25_3 true a0_0 a0_1 l0_2)) = some r := H
            have A21 := Aside0.mk A210
            clear A210
            by_cases c22 : t550 = true
            ·
             subst c22
             have H1 : (if x25_3 > 0 then (if 0 ≤ (wrap64 (x25_3 - 1)) then (if (wrap64 (x25_3 - 1)) < (l0_2.length : Int) then (if ((rd_Item l0_2 (wrap64 (x25_3 - 1))).f0) ≥ ((rd_Item l0_2 x25_3).f0) then (impl_RowOk.j4 kj12 l0_2 (l0_2.length : Int) x25_3 true a0_0 a0_1 l0_2) else ((impl_wordsOk.f kj12 ((rd_Item l0_2 x25_3).f1)).bind fun t552 => (if t552 = true then ((impl_wordsOk.f kj12 ((rd_Item l0_2 x25_3).f2)).bind fun t553 => (if t553 = true then ((impl_within.f ((rd_Item l0_2 x25_3).f3) 0 3).bind fun t554 => (if t554 = true then ((impl_within.f ((rd_Item l0_2 x25_3).f4) 0 100000).bind fun t555 => (impl_RowOk.j4 kj12 l0_2 (l0_2.length : Int) x25_3 (!t555) a0_0 a0_1 l0_2)) else (impl_RowOk.j4 kj12 l0_2 (l0_2.length : Int) x25_3 true a0_0 a0_1 l0_2))) else (impl_RowOk.j4 kj12 l0_2 (l0_2.length : Int) x25_3 true a0_0 a0_1 l0_2))) else (impl_RowOk.j4 kj12 l0_2 (l0_2.length : Int) x25_3 true a0_0 a0_1 l0_2)))) else (none)) else (none)) else ((impl_wordsOk.f kj12 ((rd_Item l0_2 x25_3).f1)).bind fun t556 => (if t556 = true then ((impl_wordsOk.f kj12 ((rd_Item l0_2 x25_3).f2)).bind fun t557 => (if t557 = true then ((impl_within.f ((rd_Item l0_2 x25_3).f3) 0 3).bind fun t558 => (if t558 = true then ((impl_within.f ((rd_Item l0_2 x25_3).f4) 0 100000).bind fun t559 => (impl_RowOk.j4 kj12 l0_2 (l0_2.length : Int) x25_3 (!t559) a0_0 a0_1 l0_2)) else (impl_RowOk.j4 kj12 l0_2 (l0_2.length : Int) x25_3 true a0_0 a0_1 l0_2))) else (impl_RowOk.j4 kj12 l0_2 (l0_2.length : Int) x25_3 true a0_0 a0_1 l0_2))) else (impl_RowOk.j4 kj12 l0_2 (l0_2.length : Int) x25_3 true a0_0 a0_1 l0_2)))) = some r := by rw [if_pos rfl] at H; exact H
             clear H
             have H := H1
             clear H1
             by_cases c23 : x25_3 > 0
             ·
              rw [if_pos c23] at H
              have c23b0 : decide (0 < x25_3) = true := decide_eq_true c23
              clear c23
              (first | rw [c23b0] | (simp only [i64_w, i32_w]; rw [c23b0]) | rw [c23b4] | rw [c23b3] | skip)
              obtain ⟨ji24, hji24⟩ : ∃ j_ : Int, (wrap64 (x25_3 - 1)) = j_ := ⟨_, rfl⟩
              replace H : (if 0 ≤ (ji24) then (if (ji24) < (l0_2.length : Int) then (if ((rd_Item l0_2 (ji24)).f0) ≥ ((rd_Item l0_2 x25_3).f0) then (impl_RowOk.j4 kj12 l0_2 (l0_2.length : Int) x25_3 true a0_0 a0_1 l0_2) else ((impl_wordsOk.f kj12 ((rd_Item l0_2 x25_3).f1)).bind fun t552 => (if t552 = true then ((impl_wordsOk.f kj12 ((rd_Item l0_2 x25_3).f2)).bind fun t553 => (if t553 = true then ((impl_within.f ((rd_Item l0_2 x25_3).f3) 0 3).bind fun t554 => (if t554 = true then ((impl_within.f ((rd_Item l0_2 x25_3).f4) 0 100000).bind fun t555 => (impl_RowOk.j4 kj12 l0_2 (l0_2.length : Int) x25_3 (!t555) a0_0 a0_1 l0_2)) else (impl_RowOk.j4 kj12 l0_2 (l0_2.length : Int) x25_3 true a0_0 a0_1 l0_2))) else (impl_RowOk.j4 kj12 l0_2 (l0_2.length : Int) x25_3 true a0_0 a0_1 l0_2))) else (impl_RowOk.j4 kj12 l0_2 (l0_2.length : Int) x25_3 true a0_0 a0_1 l0_2)))) else (none)) else (none)) = some r := by first | (rw [hji24] at H; exact H) | (simp only [hji24] at H ⊢; exact H)
              (try rw [hji24] at A21)
              have hji24w : (IntKind.i64.wrap (x25_3 - 1)) = ji24 := (i64_w _).trans hji24
              by_cases c25 : 0 ≤ (ji24)
              ·
               rw [if_pos c25] at H
               have c25b0 : decide (0 ≤ (ji24)) = true := decide_eq_true c25
               clear c25
               by_cases c26 : (ji24) < (l0_2.length : Int)
               ·
                rw [if_pos c26] at H
                have c26b0 : decide ((ji24) < (l0_2.length : Int)) = true := decide_eq_true c26
                clear c26
                by_cases c27 : ((rd_Item l0_2 (ji24)).f0) ≥ ((rd_Item l0_2 x25_3).f0)
                ·
                 rw [if_pos c27] at H
                 have c27b0 : decide (((rd_Item l0_2 x25_3).f0) ≤ ((rd_Item l0_2 (ji24)).f0)) = true := decide_eq_true c27
                 clear c27
                 have H' := Aside0.mk H
                 clear H
                 try go_wp2
                 obtain ⟨w28, qe_⟩ : ∃ x_, x_ = (((((w18.setCell ⟨gb549, 0, none⟩ (.int .i64 ((rd_Item l0_2 x25_3).f0))).setCell ⟨gb549, 1, none⟩ (.string ((rd_Item l0_2 x25_3).f1))).setCell ⟨gb549, 2, none⟩ (.string ((rd_Item l0_2 x25_3).f2))).setCell ⟨gb549, 3, none⟩ (.int .i64 ((rd_Item l0_2 x25_3).f3))).setCell ⟨gb549, 4, none⟩ (.int .i64 ((rd_Item l0_2 x25_3).f4))) := ⟨_, rfl⟩
                 rw [← qe_]
                 replace BK546 := fl_ qe_ BK546
                 replace BK549 : Aside0 (w28.heap[gb549]? = some (.cells #[.int .i64 ((rd_Item l0_2 x25_3).f0), .string ((rd_Item l0_2 x25_3).f1), .string ((rd_Item l0_2 x25_3).f2), .int .i64 ((rd_Item l0_2 x25_3).f3), .int .i64 ((rd_Item l0_2 x25_3).f4)] 33 (0, 0))) := ⟨qb2_⟩
                 replace HB : Aside0 (Below w.heap.size w w28) := ⟨by rw [qe_]; exact hb_ HB.out⟩
                 clear qe_
                 replace BK546 := Aside0.mk (blk_drew BK546.out)
                 replace BK549 := Aside0.mk (blk_drew BK549.out)
                 replace HB := Aside0.mk (below_drew1 HB.out)
                 have p551 : 0 ≤ ((ji24) : Int) := of_decide_eq_true dt_
                 have q551 : (ji24) < (l0_2.length : Int) := of_decide_eq_true dt_
                 obtain ⟨ad551, e551, hx551_0, hx551_1, hx551_2, hx551_3, hx551_4⟩ := at_Item HR0_2.out (ji24) p551 q551
                 have hw551_4 := hx551_4
                 have hw551_3 := hx551_3
                 have hw551_2 := hx551_2
                 have hw551_1 := hx551_1
                 have hw551_0 := hx551_0
                 obtain rfl : ad548 = ad551 := (by injection e551)
                 replace hx551_0 := hc_ HB hx551_0
                 replace hx551_1 := hc_ HB hx551_1
                 replace hx551_2 := hc_ HB hx551_2
                 replace hx551_3 := hc_ HB hx551_3
                 replace hx551_4 := hc_ HB hx551_4
                 replace p551 := eq_true p551
                 replace q551 := eq_true q551
                 refine start_ (n := 49) (S := fun w' => w'.cell? ⟨gb549, 0, none⟩ = some (.int .i64 ((rd_Item l0_2 x25_3).f0)) ∧ w'.cell? ⟨gb549, 1, none⟩ = some (.string ((rd_Item l0_2 x25_3).f1)) ∧ w'.cell? ⟨gb549, 2, none⟩ = some (.string ((rd_Item l0_2 x25_3).f2)) ∧ w'.cell? ⟨gb549, 3, none⟩ = some (.int .i64 ((rd_Item l0_2 x25_3).f3)) ∧ w'.cell? ⟨gb549, 4, none⟩ = some (.int .i64 ((rd_Item l0_2 x25_3).f4)) ∧ w'.cell? ⟨gb546, 0, none⟩ = some (.int .i64 a0_0) ∧ w'.cell? ⟨gb546, 1, none⟩ = some (.int .i64 a0_1) ∧ w'.cell? ⟨gb546, 2, none⟩ = some (.slice (some ad548) l0_2.length c0_2) ∧ w'.cell? (ad548.add (((ji24)).toNat * 5)) = some (.int .i64 ((rd_Item l0_2 (ji24)).f0)) ∧ w'.cell? ⟨(ad548.add (((ji24)).toNat * 5)).block, (ad548.add (((ji24)).toNat * 5)).off + 1, none⟩ = some (.string ((rd_Item l0_2 (ji24)).f1)) ∧ w'.cell? ⟨(ad548.add (((ji24)).toNat * 5)).block, (ad548.add (((ji24)).toNat * 5)).off + 2, none⟩ = some (.string ((rd_Item l0_2 (ji24)).f2)) ∧ w'.cell? ⟨(ad548.add (((ji24)).toNat * 5)).block, (ad548.add (((ji24)).toNat * 5)).off + 3, none⟩ = some (.int .i64 ((rd_Item l0_2 (ji24)).f3)) ∧ w'.cell? ⟨(ad548.add (((ji24)).toNat * 5)).block, (ad548.add (((ji24)).toNat * 5)).off + 4, none⟩ = some (.int .i64 ((rd_Item l0_2 (ji24)).f4))) (ds := []) impl_RowOk.m0 (by kernel_rfl) rfl rfl ⟨bc_ BK549 0, bc_ BK549 1, bc_ BK549 2, bc_ BK549 3, bc_ BK549 4, bc_ BK546 0, bc_ BK546 1, bc_ BK546 2, (hd_ HB hw551_0), (hd_ HB hw551_1), (hd_ HB hw551_2), (hd_ HB hw551_3), (hd_ HB hw551_4)⟩ (fun hHeld => ?_); refine with_tabW impl_RowOk.tab6 impl_RowOk.bits6 (fun HT_ HW_ => ?_)
                 generalize w28.drew = w29 at BK546 BK549 HB hx551_0 hx551_1 hx551_2 hx551_3 hx551_4 hHeld ⊢
                 refine pI_ 0 30 HT_ impl_RowOk.m1 rfl rfl ?_
                 refine pI_ 2 32 HT_ impl_RowOk.m2 rfl rfl ?_
                 refine pI_ 4 34 HT_ impl_RowOk.m3 rfl rfl ?_
                 refine tk_ 1 31 HT_ HW_ impl_RowOk.m4 rfl rfl hHeld ?_
                 refine tk_ 3 33 HT_ HW_ impl_RowOk.m5 rfl rfl hHeld ?_
                 refine tk_ 5 35 HT_ HW_ impl_RowOk.m6 rfl rfl hHeld ?_
                 refine pI_ 6 36 HT_ impl_RowOk.m7 rfl rfl ?_
                 refine on_ 7 37 HT_ impl_RowOk.m8 rfl rfl (fun K hK => ?_)
                 refine goes_ Try.func58 (by kernel_rfl) rfl #[.int .i64 ((rd_Item l0_2 x25_3).f0), .int .i64 a0_0, .int .i64 (wrap64 (a0_1 - 1))] (by rfl) rfl rfl sm_ ?_
                 with_reducible refine (impl_within.calls ((rd_Item l0_2 x25_3).f0) a0_0 (wrap64 (a0_1 - 1)) true _ A21.out).mono ?_
                 rintro e w' ⟨rfl, ⟨nd, rfl⟩⟩
                 refine ⟨_, rfl, ?_⟩
                 refine hK.out _ _ ⟨bc_ BK549 0, bc_ BK549 1, bc_ BK549 2, bc_ BK549 3, bc_ BK549 4, bc_ BK546 0, bc_ BK546 1, bc_ BK546 2, (hd_ HB hw551_0), (hd_ HB hw551_1), (hd_ HB hw551_2), (hd_ HB hw551_3), (hd_ HB hw551_4)⟩ (fun hHeld => ?_)
                 clear hK K
                 refine nm_ ?_
                 refine pI_ 8 38 HT_ impl_RowOk.m9 rfl rfl ?_
                 refine pI_ 9 39 HT_ impl_RowOk.m10 rfl rfl ?_
                 refine pI_ 10 40 HT_ impl_RowOk.m11 rfl rfl ?_
                 refine pI_ 11 41 HT_ impl_RowOk.m12 rfl rfl ?_
                 refine pI_ 12 42 HT_ impl_RowOk.m13 rfl rfl ?_
                 refine pI_ 13 43 HT_ impl_RowOk.m14 rfl rfl ?_
                 refine pI_ 15 45 HT_ impl_RowOk.m15 rfl rfl ?_
                 refine pI_ 16 46 HT_ impl_RowOk.m16 rfl rfl ?_
                 refine pI_ 20 50 HT_ impl_RowOk.m17 rfl rfl ?_
                 refine tk_ 14 44 HT_ HW_ impl_RowOk.m18 rfl rfl hHeld ?_
                 refine pI_ 17 47 HT_ impl_RowOk.m19 rfl rfl ?_
                 refine pI_ 18 48 HT_ impl_RowOk.m20 rfl rfl ?_
                 refine tk_ 19 49 HT_ HW_ impl_RowOk.m21 rfl rfl hHeld ?_
                 refine tk_ 21 51 HT_ HW_ impl_RowOk.m22 rfl rfl hHeld ?_
                 refine pI_ 22 52 HT_ impl_RowOk.m23 rfl rfl ?_
                 refine pI_ 23 53 HT_ impl_RowOk.m24 rfl rfl ?_
                 refine pI_ 24 54 HT_ impl_RowOk.m25 rfl rfl ?_
                 refine pI_ 25 55 HT_ impl_RowOk.m26 rfl rfl ?_
                 refine pU_ 26 56 HT_ impl_RowOk.m27 rfl rfl ?_
                 refine pU_ 27 57 HT_ impl_RowOk.m28 rfl rfl ?_
                 refine pU_ 28 58 HT_ impl_RowOk.m29 rfl rfl ?_
                 refine pU_ 29 59 HT_ impl_RowOk.m30 rfl rfl ?_
                 refine pI_ 30 60 HT_ impl_RowOk.m31 rfl rfl ?_
                 refine pI_ 31 61 HT_ impl_RowOk.m32 rfl rfl ?_
                 refine pU_ 32 62 HT_ impl_RowOk.m33 rfl rfl ?_
                 refine pU_ 33 63 HT_ impl_RowOk.m34 rfl rfl ?_
                 refine pU_ 34 64 HT_ impl_RowOk.m35 rfl rfl ?_
                 refine pU_ 35 65 HT_ impl_RowOk.m36 rfl rfl ?_
                 refine pI_ 36 66 HT_ impl_RowOk.m37 rfl rfl ?_
                 refine pI_ 37 67 HT_ impl_RowOk.m38 rfl rfl ?_
                 refine pU_ 38 68 HT_ impl_RowOk.m39 rfl rfl ?_
                 refine pU_ 39 69 HT_ impl_RowOk.m40 rfl rfl ?_
                 refine pU_ 40 70 HT_ impl_RowOk.m41 rfl rfl ?_
                 refine pU_ 41 71 HT_ impl_RowOk.m42 rfl rfl ?_
                 refine pI_ 42 72 HT_ impl_RowOk.m43 rfl rfl ?_
                 refine pI_ 43 73 HT_ impl_RowOk.m44 rfl rfl ?_
                 refine pU_ 44 74 HT_ impl_RowOk.m45 rfl rfl ?_
                 refine pU_ 45 75 HT_ impl_RowOk.m46 rfl rfl ?_
                 refine pU_ 46 76 HT_ impl_RowOk.m47 rfl rfl ?_
                 refine pU_ 47 77 HT_ impl_RowOk.m48 rfl rfl ?_
                 refine pI_ 48 78 HT_ impl_RowOk.m49 rfl rfl ?_
                 refine done_ (done_of HT_.out (by kernel_rfl)) ?_
                 try go_wp2
                 go_meet
                 case rel => exact ⟨_, (true), (qb1_), H', ⟨qb0_⟩, ⟨bq_ BK546.out⟩, ⟨bq_ BK549.out⟩, ⟨hb_ HB.out⟩⟩
                ·
                 rw [if_neg c27] at H
                 have c27b0 : decide (((rd_Item l0_2 x25_3).f0) ≤ ((rd_Item l0_2 (ji24)).f0)) = false := decide_eq_false c27
                 clear c27
                 replace H := Option.bind_eq_some_iff.mp H
                 obtain ⟨t552, A300, H⟩ := H
                 replace H : (if t552 = true then ((impl_wordsOk.f kj12 ((rd_Item l0_2 x25_3).f2)).bind fun t553 => (if t553 = true then ((impl_within.f ((rd_Item l0_2 x25_3).f3) 0 3).bind fun t554 => (if t554 = true then ((impl_within.f ((rd_Item l0_2 x25_3).f4) 0 100000).bind fun t555 => (impl_RowOk.j4 kj12 l0_2 (l0_2.length : Int) x25_3 (!t555) a0_0 a0_1 l0_2)) else (impl_RowOk.j4 kj12 l0_2 (l0_2.length : Int) x25_3 true a0_0 a0_1 l0_2))) else (impl_RowOk.j4 kj12 l0_2 (l0_2.length : Int) x25_3 true a0_0 a0_1 l0_2))) else (impl_RowOk.j4 kj12 l0_2 (l0_2.length : Int) x25_3 true a0_0 a0_1 l0_2)) = some r := H
                 have A30 := Aside0.mk A300
                 clear A300
                 by_cases c31 : t552 = true
                 ·
                  subst c31
                  have H1 : ((impl_wordsOk.f kj12 ((rd_Item l0_2 x25_3).f2)).bind fun t553 => (if t553 = true then ((impl_within.f ((rd_Item l0_2 x25_3).f3) 0 3).bind fun t554 => (if t554 = true then ((impl_within.f ((rd_Item l0_2 x25_3).f4) 0 100000).bind fun t555 => (impl_RowOk.j4 kj12 l0_2 (l0_2.length : Int) x25_3 (!t555) a0_0 a0_1 l0_2)) else (impl_RowOk.j4 kj12 l0_2 (l0_2.length : Int) x25_3 true a0_0 a0_1 l0_2))) else (impl_RowOk.j4 kj12 l0_2 (l0_2.length : Int) x25_3 true a0_0 a0_1 l0_2))) = some r := by rw [if_pos rfl] at H; exact H
                  clear H
                  have H := H1
                  clear H1
                  replace H := Option.bind_eq_some_iff.mp H
                  obtain ⟨t553, A320, H⟩ := H
                  replace H : (if t553 = true then ((impl_within.f ((rd_Item l0_2 x25_3).f3) 0 3).bind fun t554 => (if t554 = true then ((impl_within.f ((rd_Item l0_2 x25_3).f4) 0 100000).bind fun t555 => (impl_RowOk.j4 kj12 l0_2 (l0_2.length : Int) x25_3 (!t555) a0_0 a0_1 l0_2)) else (impl_RowOk.j4 kj12 l0_2 (l0_2.length : Int) x25_3 true a0_0 a0_1 l0_2))) else (impl_RowOk.j4 kj12 l0_2 (l0_2.length : Int) x25_3 true a0_0 a0_1 l0_2)) = some r := H
                  have A32 := Aside0.mk A320
                  clear A320
                  by_cases c33 : t553 = true
                  ·
                   subst c33
                   have H1 : ((impl_within.f ((rd_Item l0_2 x25_3).f3) 0 3).bind fun t554 => (if t554 = true then ((impl_within.f ((rd_Item l0_2 x25_3).f4) 0 100000).bind fun t555 => (impl_RowOk.j4 kj12 l0_2 (l0_2.length : Int) x25_3 (!t555) a0_0 a0_1 l0_2)) else (impl_RowOk.j4 kj12 l0_2 (l0_2.length : Int) x25_3 true a0_0 a0_1 l0_2))) = some r := by rw [if_pos rfl] at H; exact H
                   clear H
                   have H := H1
                   clear H1
                   replace H := Option.bind_eq_some_iff.mp H
                   obtain ⟨t554, A340, H⟩ := H
                   replace H : (if t554 = true then ((impl_within.f ((rd_Item l0_2 x25_3).f4) 0 100000).bind fun t555 => (impl_RowOk.j4 kj12 l0_2 (l0_2.length : Int) x25_3 (!t555) a0_0 a0_1 l0_2)) else (impl_RowOk.j4 kj12 l0_2 (l0_2.length : Int) x25_3 true a0_0 a0_1 l0_2)) = some r := H
                   have A34 := Aside0.mk A340
                   clear A340
                   by_cases c35 : t554 = true
                   ·
                    subst c35
                    have H1 : ((impl_within.f ((rd_Item l0_2 x25_3).f4) 0 100000).bind fun t555 => (impl_RowOk.j4 kj12 l0_2 (l0_2.length : Int) x25_3 (!t555) a0_0 a0_1 l0_2)) = some r := by rw [if_pos rfl] at H; exact H
                    clear H
                    have H := H1
                    clear H1
                    replace H := Option.bind_eq_some_iff.mp H
                    obtain ⟨t555, A360, H⟩ := H
                    replace H : (impl_RowOk.j4 kj12 l0_2 (l0_2.length : Int) x25_3 (!t555) a0_0 a0_1 l0_2) = some r := H
                    have A36 := Aside0.mk A360
                    clear A360
                    have H' := Aside0.mk H
                    clear H
                    try go_wp2
                    obtain ⟨w37, qe_⟩ : ∃ x_, x_ = (((((w18.setCell ⟨gb549, 0, none⟩ (.int .i64 ((rd_Item l0_2 x25_3).f0))).setCell ⟨gb549, 1, none⟩ (.string ((rd_Item l0_2 x25_3).f1))).setCell ⟨gb549, 2, none⟩ (.string ((rd_Item l0_2 x25_3).f2))).setCell ⟨gb549, 3, none⟩ (.int .i64 ((rd_Item l0_2 x25_3).f3))).setCell ⟨gb549, 4, none⟩ (.int .i64 ((rd_Item l0_2 x25_3).f4))) := ⟨_, rfl⟩
                    rw [← qe_]
                    replace BK546 := fl_ qe_ BK546
                    replace BK549 : Aside0 (w37.heap[gb549]? = some (.cells #[.int .i64 ((rd_Item l0_2 x25_3).f0), .string ((rd_Item l0_2 x25_3).f1), .string ((rd_Item l0_2 x25_3).f2), .int .i64 ((rd_Item l0_2 x25_3).f3), .int .i64 ((rd_Item l0_2 x25_3).f4)] 33 (0, 0))) := ⟨qb2_⟩
                    replace HB : Aside0 (Below w.heap.size w w37) := ⟨by rw [qe_]; exact hb_ HB.out⟩
                    clear qe_
                    replace BK546 := Aside0.mk (blk_drew BK546.out)
                    replace BK549 := Aside0.mk (blk_drew BK549.out)
                    replace HB := Aside0.mk (below_drew1 HB.out)
                    have p551 : 0 ≤ ((ji24) : Int) := of_decide_eq_true dt_
                    have q551 : (ji24) < (l0_2.length : Int) := of_decide_eq_true dt_
                    obtain ⟨ad551, e551, hx551_0, hx551_1, hx551_2, hx551_3, hx551_4⟩ := at_Item HR0_2.out (ji24) p551 q551
                    have hw551_4 := hx551_4
                    have hw551_3 := hx551_3
                    have hw551_2 := hx551_2
                    have hw551_1 := hx551_1
                    have hw551_0 := hx551_0
                    obtain rfl : ad548 = ad551 := (by injection e551)
                    replace hx551_0 := hc_ HB hx551_0
                    replace hx551_1 := hc_ HB hx551_1
                    replace hx551_2 := hc_ HB hx551_2
                    replace hx551_3 := hc_ HB hx551_3
                    replace hx551_4 := hc_ HB hx551_4
                    replace p551 := eq_true p551
                    replace q551 := eq_true q551
                    refine start_ (n := 49) (S := fun w' => w'.cell? ⟨gb549, 0, none⟩ = some (.int .i64 ((rd_Item l0_2 x25_3).f0)) ∧ w'.cell? ⟨gb549, 1, none⟩ = some (.string ((rd_Item l0_2 x25_3).f1)) ∧ w'.cell? ⟨gb549, 2, none⟩ = some (.string ((rd_Item l0_2 x25_3).f2)) ∧ w'.cell? ⟨gb549, 3, none⟩ = some (.int .i64 ((rd_Item l0_2 x25_3).f3)) ∧ w'.cell? ⟨gb549, 4, none⟩ = some (.int .i64 ((rd_Item l0_2 x25_3).f4)) ∧ w'.cell? ⟨gb546, 0, none⟩ = some (.int .i64 a0_0) ∧ w'.cell? ⟨gb546, 1, none⟩ = some (.int .i64 a0_1) ∧ w'.cell? ⟨gb546, 2, none⟩ = some (.slice (some ad548) l0_2.length c0_2) ∧ w'.cell? (ad548.add (((ji24)).toNat * 5)) = some (.int .i64 ((rd_Item l0_2 (ji24)).f0)) ∧ w'.cell? ⟨(ad548.add (((ji24)).toNat * 5)).block, (ad548.add (((ji24)).toNat * 5)).off + 1, none⟩ = some (.string ((rd_Item l0_2 (ji24)).f1)) ∧ w'.cell? ⟨(ad548.add (((ji24)).toNat * 5)).block, (ad548.add (((ji24)).toNat * 5)).off + 2, none⟩ = some (.string ((rd_Item l0_2 (ji24)).f2)) ∧ w'.cell? ⟨(ad548.add (((ji24)).toNat * 5)).block, (ad548.add (((ji24)).toNat * 5)).off + 3, none⟩ = some (.int .i64 ((rd_Item l0_2 (ji24)).f3)) ∧ w'.cell? ⟨(ad548.add (((ji24)).toNat * 5)).block, (ad548.add (((ji24)).toNat * 5)).off + 4, none⟩ = some (.int .i64 ((rd_Item l0_2 (ji24)).f4))) (ds := []) impl_RowOk.m0 (by kernel_rfl) rfl rfl ⟨bc_ BK549 0, bc_ BK549 1, bc_ BK549 2, bc_ BK549 3, bc_ BK549 4, bc_ BK546 0, bc_ BK546 1, bc_ BK546 2, (hd_ HB hw551_0), (hd_ HB hw551_1), (hd_ HB hw551_2), (hd_ HB hw551_3), (hd_ HB hw551_4)⟩ (fun hHeld => ?_); refine with_tabW impl_RowOk.tab6 impl_RowOk.bits6 (fun HT_ HW_ => ?_)
                    generalize w37.drew = w38 at BK546 BK549 HB hx551_0 hx551_1 hx551_2 hx551_3 hx551_4 hHeld ⊢
                    refine pI_ 0 30 HT_ impl_RowOk.m1 rfl rfl ?_
                    refine pI_ 2 32 HT_ impl_RowOk.m2 rfl rfl ?_
                    refine pI_ 4 34 HT_ impl_RowOk.m3 rfl rfl ?_
                    refine tk_ 1 31 HT_ HW_ impl_RowOk.m4 rfl rfl hHeld ?_
                    refine tk_ 3 33 HT_ HW_ impl_RowOk.m5 rfl rfl hHeld ?_
                    refine tk_ 5 35 HT_ HW_ impl_RowOk.m6 rfl rfl hHeld ?_
                    refine pI_ 6 36 HT_ impl_RowOk.m7 rfl rfl ?_
                    refine on_ 7 37 HT_ impl_RowOk.m8 rfl rfl (fun K hK => ?_)
                    refine goes_ Try.func58 (by kernel_rfl) rfl #[.int .i64 ((rd_Item l0_2 x25_3).f0), .int .i64 a0_0, .int .i64 (wrap64 (a0_1 - 1))] (by rfl) rfl rfl sm_ ?_
                    with_reducible refine (impl_within.calls ((rd_Item l0_2 x25_3).f0) a0_0 (wrap64 (a0_1 - 1)) true _ A21.out).mono ?_
                    rintro e w' ⟨rfl, ⟨nd, rfl⟩⟩
                    refine ⟨_, rfl, ?_⟩
                    refine hK.out _ _ ⟨bc_ BK549 0, bc_ BK549 1, bc_ BK549 2, bc_ BK549 3, bc_ BK549 4, bc_ BK546 0, bc_ BK546 1, bc_ BK546 2, (hd_ HB hw551_0), (hd_ HB hw551_1), (hd_ HB hw551_2), (hd_ HB hw551_3), (hd_ HB hw551_4)⟩ (fun hHeld => ?_)
                    clear hK K
                    refine nm_ ?_
                    refine pI_ 8 38 HT_ impl_RowOk.m9 rfl rfl ?_
                    refine pI_ 9 39 HT_ impl_RowOk.m10 rfl rfl ?_
                    refine pI_ 10 40 HT_ impl_RowOk.m11 rfl rfl ?_
                    refine pI_ 11 41 HT_ impl_RowOk.m12 rfl rfl ?_
                    refine pI_ 12 42 HT_ impl_RowOk.m13 rfl rfl ?_
                    refine pI_ 13 43 HT_ impl_RowOk.m14 rfl rfl ?_
                    refine pI_ 15 45 HT_ impl_RowOk.m15 rfl rfl ?_
                    refine pI_ 16 46 HT_ impl_RowOk.m16 rfl rfl ?_
                    refine pI_ 20 50 HT_ impl_RowOk.m17 rfl rfl ?_
                    refine tk_ 14 44 HT_ HW_ impl_RowOk.m18 rfl rfl hHeld ?_
                    refine pI_ 17 47 HT_ impl_RowOk.m19 rfl rfl ?_
                    refine pI_ 18 48 HT_ impl_RowOk.m20 rfl rfl ?_
                    refine tk_ 19 49 HT_ HW_ impl_RowOk.m21 rfl rfl hHeld ?_
                    refine tk_ 21 51 HT_ HW_ impl_RowOk.m22 rfl rfl hHeld ?_
                    refine pI_ 22 52 HT_ impl_RowOk.m23 rfl rfl ?_
                    refine pI_ 23 53 HT_ impl_RowOk.m24 rfl rfl ?_
                    refine pI_ 24 54 HT_ impl_RowOk.m25 rfl rfl ?_
                    refine pI_ 25 55 HT_ impl_RowOk.m26 rfl rfl ?_
                    refine pI_ 26 56 HT_ impl_RowOk.m27 rfl rfl ?_
                    refine tk_ 27 57 HT_ HW_ impl_RowOk.m28 rfl rfl hHeld ?_
                    refine on_ 28 58 HT_ impl_RowOk.m29 rfl rfl (fun K hK => ?_)
                    refine goes_ Try.func59 (by kernel_rfl) rfl #[.string ((rd_Item l0_2 x25_3).f1)] (by rfl) rfl rfl sm_ ?_
                    with_reducible refine (impl_wordsOk.calls kj12 ((rd_Item l0_2 x25_3).f1) true _ A30.out).mono ?_
                    rintro e w' ⟨rfl, ⟨nd, rfl⟩⟩
                    refine ⟨_, rfl, ?_⟩
                    refine hK.out _ _ ⟨bc_ BK549 0, bc_ BK549 1, bc_ BK549 2, bc_ BK549 3, bc_ BK549 4, bc_ BK546 0, bc_ BK546 1, bc_ BK546 2, (hd_ HB hw551_0), (hd_ HB hw551_1), (hd_ HB hw551_2), (hd_ HB hw551_3), (hd_ HB hw551_4)⟩ (fun hHeld => ?_)
                    clear hK K
                    refine nm_ ?_
                    refine pI_ 29 59 HT_ impl_RowOk.m30 rfl rfl ?_
                    refine pI_ 30 60 HT_ impl_RowOk.m31 rfl rfl ?_
                    refine pI_ 31 61 HT_ impl_RowOk.m32 rfl rfl ?_
                    refine pI_ 32 62 HT_ impl_RowOk.m33 rfl rfl ?_
                    refine tk_ 33 63 HT_ HW_ impl_RowOk.m34 rfl rfl hHeld ?_
                    refine on_ 34 64 HT_ impl_RowOk.m35 rfl rfl (fun K hK => ?_)
                    refine goes_ Try.func59 (by kernel_rfl) rfl #[.string ((rd_Item l0_2 x25_3).f2)] (by rfl) rfl rfl sm_ ?_
                    with_reducible refine (impl_wordsOk.calls kj12 ((rd_Item l0_2 x25_3).f2) true _ A32.out).mono ?_
                    rintro e w' ⟨rfl, ⟨nd, rfl⟩⟩
                    refine ⟨_, rfl, ?_⟩
                    refine hK.out _ _ ⟨bc_ BK549 0, bc_ BK549 1, bc_ BK549 2, bc_ BK549 3, bc_ BK549 4, bc_ BK546 0, bc_ BK546 1, bc_ BK546 2, (hd_ HB hw551_0), (hd_ HB hw551_1), (hd_ HB hw551_2), (hd_ HB hw551_3), (hd_ HB hw551_4)⟩ (fun hHeld => ?_)
                    clear hK K
                    refine nm_ ?_
                    refine pI_ 35 65 HT_ impl_RowOk.m36 rfl rfl ?_
                    refine pI_ 36 66 HT_ impl_RowOk.m37 rfl rfl ?_
                    refine pI_ 37 67 HT_ impl_RowOk.m38 rfl rfl ?_
                    refine pI_ 38 68 HT_ impl_RowOk.m39 rfl rfl ?_
                    refine tk_ 39 69 HT_ HW_ impl_RowOk.m40 rfl rfl hHeld ?_
                    refine on_ 40 70 HT_ impl_RowOk.m41 rfl rfl (fun K hK => ?_)
                    refine goes_ Try.func58 (by kernel_rfl) rfl #[.int .i64 ((rd_Item l0_2 x25_3).f3), .int .i64 0, .int .i64 3] (by rfl) rfl rfl sm_ ?_
                    with_reducible refine (impl_within.calls ((rd_Item l0_2 x25_3).f3) 0 3 true _ A34.out).mono ?_
                    rintro e w' ⟨rfl, ⟨nd, rfl⟩⟩
                    refine ⟨_, rfl, ?_⟩
                    refine hK.out _ _ ⟨bc_ BK549 0, bc_ BK549 1, bc_ BK549 2, bc_ BK549 3, bc_ BK549 4, bc_ BK546 0, bc_ BK546 1, bc_ BK546 2, (hd_ HB hw551_0), (hd_ HB hw551_1), (hd_ HB hw551_2), (hd_ HB hw551_3), (hd_ HB hw551_4)⟩ (fun hHeld => ?_)
                    clear hK K
                    refine nm_ ?_
                    refine pI_ 41 71 HT_ impl_RowOk.m42 rfl rfl ?_
                    refine pI_ 42 72 HT_ impl_RowOk.m43 rfl rfl ?_
                    refine pI_ 43 73 HT_ impl_RowOk.m44 rfl rfl ?_
                    refine pI_ 44 74 HT_ impl_RowOk.m45 rfl rfl ?_
                    refine tk_ 45 75 HT_ HW_ impl_RowOk.m46 rfl rfl hHeld ?_
                    refine on_ 46 76 HT_ impl_RowOk.m47 rfl rfl (fun K hK => ?_)
                    refine goes_ Try.func58 (by kernel_rfl) rfl #[.int .i64 ((rd_Item l0_2 x25_3).f4), .int .i64 0, .int .i64 100000] (by rfl) rfl rfl sm_ ?_
                    with_reducible refine (impl_within.calls ((rd_Item l0_2 x25_3).f4) 0 100000 t555 _ A36.out).mono ?_
                    rintro e w' ⟨rfl, ⟨nd, rfl⟩⟩
                    refine ⟨_, rfl, ?_⟩
                    refine hK.out _ _ ⟨bc_ BK549 0, bc_ BK549 1, bc_ BK549 2, bc_ BK549 3, bc_ BK549 4, bc_ BK546 0, bc_ BK546 1, bc_ BK546 2, (hd_ HB hw551_0), (hd_ HB hw551_1), (hd_ HB hw551_2), (hd_ HB hw551_3), (hd_ HB hw551_4)⟩ (fun hHeld => ?_)
                    clear hK K
                    refine nm_ ?_
                    refine pI_ 47 77 HT_ impl_RowOk.m48 rfl rfl ?_
                    refine pI_ 48 78 HT_ impl_RowOk.m49 rfl rfl ?_
                    refine done_ (done_of HT_.out (by kernel_rfl)) ?_
                    try go_wp2
                    go_meet
                    case rel => exact ⟨_, (!t555), (qb1_), H', ⟨qb0_⟩, ⟨bq_ BK546.out⟩, ⟨bq_ BK549.out⟩, ⟨hb_ HB.out⟩⟩
                   ·
                    replace c35 := Bool.eq_false_iff.mpr c35
                    subst c35
                    have H1 : (impl_RowOk.j4 kj12 l0_2 (l0_2.length : Int) x25_3 true a0_0 a0_1 l0_2) = some r := by rw [if_neg (show ¬ (false = true) by decide)] at H; exact H
                    clear H
                    have H := H1
                    clear H1
                    have H' := Aside0.mk H
                    clear H
                    try go_wp2
                    obtain ⟨w39, qe_⟩ : ∃ x_, x_ = (((((w18.setCell ⟨gb549, 0, none⟩ (.int .i64 ((rd_Item l0_2 x25_3).f0))).setCell ⟨gb549, 1, none⟩ (.string ((rd_Item l0_2 x25_3).f1))).setCell ⟨gb549, 2, none⟩ (.string ((rd_Item l0_2 x25_3).f2))).setCell ⟨gb549, 3, none⟩ (.int .i64 ((rd_Item l0_2 x25_3).f3))).setCell ⟨gb549, 4, none⟩ (.int .i64 ((rd_Item l0_2 x25_3).f4))) := ⟨_, rfl⟩
                    rw [← qe_]
                    replace BK546 := fl_ qe_ BK546
                    replace BK549 : Aside0 (w39.heap[gb549]? = some (.cells #[.int .i64 ((rd_Item l0_2 x25_3).f0), .string ((rd_Item l0_2 x25_3).f1), .string ((rd_Item l0_2 x25_3).f2), .int .i64 ((rd_Item l0_2 x25_3).f3), .int .i64 ((rd_Item l0_2 x25_3).f4)] 33 (0, 0))) := ⟨qb2_⟩
                    replace HB : Aside0 (Below w.heap.size w w39) := ⟨by rw [qe_]; exact hb_ HB.out⟩
                    clear qe_
                    replace BK546 := Aside0.mk (blk_drew BK546.out)
                    replace BK549 := Aside0.mk (blk_drew BK549.out)
                    replace HB := Aside0.mk (below_drew1 HB.out)
                    have p551 : 0 ≤ ((ji24) : Int) := of_decide_eq_true dt_
                    have q551 : (ji24) < (l0_2.length : Int) := of_decide_eq_true dt_
                    obtain ⟨ad551, e551, hx551_0, hx551_1, hx551_2, hx551_3, hx551_4⟩ := at_Item HR0_2.out (ji24) p551 q551
                    have hw551_4 := hx551_4
                    have hw551_3 := hx551_3
                    have hw551_2 := hx551_2
                    have hw551_1 := hx551_1
                    have hw551_0 := hx551_0
                    obtain rfl : ad548 = ad551 := (by injection e551)
                    replace hx551_0 := hc_ HB hx551_0
                    replace hx551_1 := hc_ HB hx551_1
                    replace hx551_2 := hc_ HB hx551_2
                    replace hx551_3 := hc_ HB hx551_3
                    replace hx551_4 := hc_ HB hx551_4
                    replace p551 := eq_true p551
                    replace q551 := eq_true q551
                    refine start_ (n := 49) (S := fun w' => w'.cell? ⟨gb549, 0, none⟩ = some (.int .i64 ((rd_Item l0_2 x25_3).f0)) ∧ w'.cell? ⟨gb549, 1, none⟩ = some (.string ((rd_Item l0_2 x25_3).f1)) ∧ w'.cell? ⟨gb549, 2, none⟩ = some (.string ((rd_Item l0_2 x25_3).f2)) ∧ w'.cell? ⟨gb549, 3, none⟩ = some (.int .i64 ((rd_Item l0_2 x25_3).f3)) ∧ w'.cell? ⟨gb549, 4, none⟩ = some (.int .i64 ((rd_Item l0_2 x25_3).f4)) ∧ w'.cell? ⟨gb546, 0, none⟩ = some (.int .i64 a0_0) ∧ w'.cell? ⟨gb546, 1, none⟩ = some (.int .i64 a0_1) ∧ w'.cell? ⟨gb546, 2, none⟩ = some (.slice (some ad548) l0_2.length c0_2) ∧ w'.cell? (ad548.add (((ji24)).toNat * 5)) = some (.int .i64 ((rd_Item l0_2 (ji24)).f0)) ∧ w'.cell? ⟨(ad548.add (((ji24)).toNat * 5)).block, (ad548.add (((ji24)).toNat * 5)).off + 1, none⟩ = some (.string ((rd_Item l0_2 (ji24)).f1)) ∧ w'.cell? ⟨(ad548.add (((ji24)).toNat * 5)).block, (ad548.add (((ji24)).toNat * 5)).off + 2, none⟩ = some (.string ((rd_Item l0_2 (ji24)).f2)) ∧ w'.cell? ⟨(ad548.add (((ji24)).toNat * 5)).block, (ad548.add (((ji24)).toNat * 5)).off + 3, none⟩ = some (.int .i64 ((rd_Item l0_2 (ji24)).f3)) ∧ w'.cell? ⟨(ad548.add (((ji24)).toNat * 5)).block, (ad548.add (((ji24)).toNat * 5)).off + 4, none⟩ = some (.int .i64 ((rd_Item l0_2 (ji24)).f4))) (ds := []) impl_RowOk.m0 (by kernel_rfl) rfl rfl ⟨bc_ BK549 0, bc_ BK549 1, bc_ BK549 2, bc_ BK549 3, bc_ BK549 4, bc_ BK546 0, bc_ BK546 1, bc_ BK546 2, (hd_ HB hw551_0), (hd_ HB hw551_1), (hd_ HB hw551_2), (hd_ HB hw551_3), (hd_ HB hw551_4)⟩ (fun hHeld => ?_); refine with_tabW impl_RowOk.tab6 impl_RowOk.bits6 (fun HT_ HW_ => ?_)
                    generalize w39.drew = w40 at BK546 BK549 HB hx551_0 hx551_1 hx551_2 hx551_3 hx551_4 hHeld ⊢
                    refine pI_ 0 30 HT_ impl_RowOk.m1 rfl rfl ?_
                    refine pI_ 2 32 HT_ impl_RowOk.m2 rfl rfl ?_
                    refine pI_ 4 34 HT_ impl_RowOk.m3 rfl rfl ?_
                    refine tk_ 1 31 HT_ HW_ impl_RowOk.m4 rfl rfl hHeld ?_
                    refine tk_ 3 33 HT_ HW_ impl_RowOk.m5 rfl rfl hHeld ?_
                    refine tk_ 5 35 HT_ HW_ impl_RowOk.m6 rfl rfl hHeld ?_
                    refine pI_ 6 36 HT_ impl_RowOk.m7 rfl rfl ?_
                    refine on_ 7 37 HT_ impl_RowOk.m8 rfl rfl (fun K hK => ?_)
                    refine goes_ Try.func58 (by kernel_rfl) rfl #[.int .i64 ((rd_Item l0_2 x25_3).f0), .int .i64 a0_0, .int .i64 (wrap64 (a0_1 - 1))] (by rfl) rfl rfl sm_ ?_
                    with_reducible refine (impl_within.calls ((rd_Item l0_2 x25_3).f0) a0_0 (wrap64 (a0_1 - 1)) true _ A21.out).mono ?_
                    rintro e w' ⟨rfl, ⟨nd, rfl⟩⟩
                    refine ⟨_, rfl, ?_⟩
                    refine hK.out _ _ ⟨bc_ BK549 0, bc_ BK549 1, bc_ BK549 2, bc_ BK549 3, bc_ BK549 4, bc_ BK546 0, bc_ BK546 1, bc_ BK546 2, (hd_ HB hw551_0), (hd_ HB hw551_1), (hd_ HB hw551_2), (hd_ HB hw551_3), (hd_ HB hw551_4)⟩ (fun hHeld => ?_)
                    clear hK K
                    refine nm_ ?_
                    refine pI_ 8 38 HT_ impl_RowOk.m9 rfl rfl ?_
                    refine pI_ 9 39 HT_ impl_RowOk.m10 rfl rfl ?_
                    refine pI_ 10 40 HT_ impl_RowOk.m11 rfl rfl ?_
                    refine pI_ 11 41 HT_ impl_RowOk.m12 rfl rfl ?_
                    refine pI_ 12 42 HT_ impl_RowOk.m13 rfl rfl ?_
                    refine pI_ 13 43 HT_ impl_RowOk.m14 rfl rfl ?_
                    refine pI_ 15 45 HT_ impl_RowOk.m15 rfl rfl ?_
                    refine pI_ 16 46 HT_ impl_RowOk.m16 rfl rfl ?_
                    refine pI_ 20 50 HT_ impl_RowOk.m17 rfl rfl ?_
                    refine tk_ 14 44 HT_ HW_ impl_RowOk.m18 rfl rfl hHeld ?_
                    refine pI_ 17 47 HT_ impl_RowOk.m19 rfl rfl ?_
                    refine pI_ 18 48 HT_ impl_RowOk.m20 rfl rfl ?_
                    refine tk_ 19 49 HT_ HW_ impl_RowOk.m21 rfl rfl hHeld ?_
                    refine tk_ 21 51 HT_ HW_ impl_RowOk.m22 rfl rfl hHeld ?_
                    refine pI_ 22 52 HT_ impl_RowOk.m23 rfl rfl ?_
                    refine pI_ 23 53 HT_ impl_RowOk.m24 rfl rfl ?_
                    refine pI_ 24 54 HT_ impl_RowOk.m25 rfl rfl ?_
                    refine pI_ 25 55 HT_ impl_RowOk.m26 rfl rfl ?_
                    refine pI_ 26 56 HT_ impl_RowOk.m27 rfl rfl ?_
                    refine tk_ 27 57 HT_ HW_ impl_RowOk.m28 rfl rfl hHeld ?_
                    refine on_ 28 58 HT_ impl_RowOk.m29 rfl rfl (fun K hK => ?_)
                    refine goes_ Try.func59 (by kernel_rfl) rfl #[.string ((rd_Item l0_2 x25_3).f1)] (by rfl) rfl rfl sm_ ?_
                    with_reducible refine (impl_wordsOk.calls kj12 ((rd_Item l0_2 x25_3).f1) true _ A30.out).mono ?_
                    rintro e w' ⟨rfl, ⟨nd, rfl⟩⟩
                    refine ⟨_, rfl, ?_⟩
                    refine hK.out _ _ ⟨bc_ BK549 0, bc_ BK549 1, bc_ BK549 2, bc_ BK549 3, bc_ BK549 4, bc_ BK546 0, bc_ BK546 1, bc_ BK546 2, (hd_ HB hw551_0), (hd_ HB hw551_1), (hd_ HB hw551_2), (hd_ HB hw551_3), (hd_ HB hw551_4)⟩ (fun hHeld => ?_)
                    clear hK K
                    refine nm_ ?_
                    refine pI_ 29 59 HT_ impl_RowOk.m30 rfl rfl ?_
                    refine pI_ 30 60 HT_ impl_RowOk.m31 rfl rfl ?_
                    refine pI_ 31 61 HT_ impl_RowOk.m32 rfl rfl ?_
                    refine pI_ 32 62 HT_ impl_RowOk.m33 rfl rfl ?_
                    refine tk_ 33 63 HT_ HW_ impl_RowOk.m34 rfl rfl hHeld ?_
                    refine on_ 34 64 HT_ impl_RowOk.m35 rfl rfl (fun K hK => ?_)
                    refine goes_ Try.func59 (by kernel_rfl) rfl #[.string ((rd_Item l0_2 x25_3).f2)] (by rfl) rfl rfl sm_ ?_
                    with_reducible refine (impl_wordsOk.calls kj12 ((rd_Item l0_2 x25_3).f2) true _ A32.out).mono ?_
                    rintro e w' ⟨rfl, ⟨nd, rfl⟩⟩
                    refine ⟨_, rfl, ?_⟩
                    refine hK.out _ _ ⟨bc_ BK549 0, bc_ BK549 1, bc_ BK549 2, bc_ BK549 3, bc_ BK549 4, bc_ BK546 0, bc_ BK546 1, bc_ BK546 2, (hd_ HB hw551_0), (hd_ HB hw551_1), (hd_ HB hw551_2), (hd_ HB hw551_3), (hd_ HB hw551_4)⟩ (fun hHeld => ?_)
                    clear hK K
                    refine nm_ ?_
                    refine pI_ 35 65 HT_ impl_RowOk.m36 rfl rfl ?_
                    refine pI_ 36 66 HT_ impl_RowOk.m37 rfl rfl ?_
                    refine pI_ 37 67 HT_ impl_RowOk.m38 rfl rfl ?_
                    refine pI_ 38 68 HT_ impl_RowOk.m39 rfl rfl ?_
                    refine tk_ 39 69 HT_ HW_ impl_RowOk.m40 rfl rfl hHeld ?_
                    refine on_ 40 70 HT_ impl_RowOk.m41 rfl rfl (fun K hK => ?_)
                    refine goes_ Try.func58 (by kernel_rfl) rfl #[.int .i64 ((rd_Item l0_2 x25_3).f3), .int .i64 0, .int .i64 3] (by rfl) rfl rfl sm_ ?_
                    with_reducible refine (impl_within.calls ((rd_Item l0_2 x25_3).f3) 0 3 false _ A34.out).mono ?_
                    rintro e w' ⟨rfl, ⟨nd, rfl⟩⟩
                    refine ⟨_, rfl, ?_⟩
                    refine hK.out _ _ ⟨bc_ BK549 0, bc_ BK549 1, bc_ BK549 2, bc_ BK549 3, bc_ BK549 4, bc_ BK546 0, bc_ BK546 1, bc_ BK546 2, (hd_ HB hw551_0), (hd_ HB hw551_1), (hd_ HB hw551_2), (hd_ HB hw551_3), (hd_ HB hw551_4)⟩ (fun hHeld => ?_)
                    clear hK K
                    refine nm_ ?_
                    refine pI_ 41 71 HT_ impl_RowOk.m42 rfl rfl ?_
                    refine pI_ 42 72 HT_ impl_RowOk.m43 rfl rfl ?_
                    refine pI_ 43 73 HT_ impl_RowOk.m44 rfl rfl ?_
                    refine pU_ 44 74 HT_ impl_RowOk.m45 rfl rfl ?_
                    refine pU_ 45 75 HT_ impl_RowOk.m46 rfl rfl ?_
                    refine pU_ 46 76 HT_ impl_RowOk.m47 rfl rfl ?_
                    refine pU_ 47 77 HT_ impl_RowOk.m48 rfl rfl ?_
                    refine pI_ 48 78 HT_ impl_RowOk.m49 rfl rfl ?_
                    refine done_ (done_of HT_.out (by kernel_rfl)) ?_
                    try go_wp2
                    go_meet
                    case rel => exact ⟨_, (true), (qb1_), H', ⟨qb0_⟩, ⟨bq_ BK546.out⟩, ⟨bq_ BK549.out⟩, ⟨hb_ HB.out⟩⟩
                  ·
                   replace c33 := Bool.eq_false_iff.mpr c33
                   subst c33
                   have H1 : (impl_RowOk.j4 kj12 l0_2 (l0_2.length : Int) x25_3 true a0_0 a0_1 l0_2) = some r := by rw [if_neg (show ¬ (false = true) by decide)] at H; exact H
                   clear H
                   have H := H1
                   clear H1
                   have H' := Aside0.mk H
                   clear H
                   try go_wp2
                   obtain ⟨w41, qe_⟩ : ∃ x_, x_ = (((((w18.setCell ⟨gb549, 0, none⟩ (.int .i64 ((rd_Item l0_2 x25_3).f0))).setCell ⟨gb549, 1, none⟩ (.string ((rd_Item l0_2 x25_3).f1))).setCell ⟨gb549, 2, none⟩ (.string ((rd_Item l0_2 x25_3).f2))).setCell ⟨gb549, 3, none⟩ (.int .i64 ((rd_Item l0_2 x25_3).f3))).setCell ⟨gb549, 4, none⟩ (.int .i64 ((rd_Item l0_2 x25_3).f4))) := ⟨_, rfl⟩
                   rw [← qe_]
                   replace BK546 := fl_ qe_ BK546
                   replace BK549 : Aside0 (w41.heap[gb549]? = some (.cells #[.int .i64 ((rd_Item l0_2 x25_3).f0), .string ((rd_Item l0_2 x25_3).f1), .string ((rd_Item l0_2 x25_3).f2), .int .i64 ((rd_Item l0_2 x25_3).f3), .int .i64 ((rd_Item l0_2 x25_3).f4)] 33 (0, 0))) := ⟨qb2_⟩
                   replace HB : Aside0 (Below w.heap.size w w41) := ⟨by rw [qe_]; exact hb_ HB.out⟩
                   clear qe_
                   replace BK546 := Aside0.mk (blk_drew BK546.out)
                   replace BK549 := Aside0.mk (blk_drew BK549.out)
                   replace HB := Aside0.mk (below_drew1 HB.out)
                   have p551 : 0 ≤ ((ji24) : Int) := of_decide_eq_true dt_
                   have q551 : (ji24) < (l0_2.length : Int) := of_decide_eq_true dt_
                   obtain ⟨ad551, e551, hx551_0, hx551_1, hx551_2, hx551_3, hx551_4⟩ := at_Item HR0_2.out (ji24) p551 q551
                   have hw551_4 := hx551_4
                   have hw551_3 := hx551_3
                   have hw551_2 := hx551_2
                   have hw551_1 := hx551_1
                   have hw551_0 := hx551_0
                   obtain rfl : ad548 = ad551 := (by injection e551)
                   replace hx551_0 := hc_ HB hx551_0
                   replace hx551_1 := hc_ HB hx551_1
                   replace hx551_2 := hc_ HB hx551_2
                   replace hx551_3 := hc_ HB hx551_3
                   replace hx551_4 := hc_ HB hx551_4
                   replace p551 := eq_true p551
                   replace q551 := eq_true q551
                   refine start_ (n := 49) (S := fun w' => w'.cell? ⟨gb549, 0, none⟩ = some (.int .i64 ((rd_Item l0_2 x25_3).f0)) ∧ w'.cell? ⟨gb549, 1, none⟩ = some (.string ((rd_Item l0_2 x25_3).f1)) ∧ w'.cell? ⟨gb549, 2, none⟩ = some (.string ((rd_Item l0_2 x25_3).f2)) ∧ w'.cell? ⟨gb549, 3, none⟩ = some (.int .i64 ((rd_Item l0_2 x25_3).f3)) ∧ w'.cell? ⟨gb549, 4, none⟩ = some (.int .i64 ((rd_Item l0_2 x25_3).f4)) ∧ w'.cell? ⟨gb546, 0, none⟩ = some (.int .i64 a0_0) ∧ w'.cell? ⟨gb546, 1, none⟩ = some (.int .i64 a0_1) ∧ w'.cell? ⟨gb546, 2, none⟩ = some (.slice (some ad548) l0_2.length c0_2) ∧ w'.cell? (ad548.add (((ji24)).toNat * 5)) = some (.int .i64 ((rd_Item l0_2 (ji24)).f0)) ∧ w'.cell? ⟨(ad548.add (((ji24)).toNat * 5)).block, (ad548.add (((ji24)).toNat * 5)).off + 1, none⟩ = some (.string ((rd_Item l0_2 (ji24)).f1)) ∧ w'.cell? ⟨(ad548.add (((ji24)).toNat * 5)).block, (ad548.add (((ji24)).toNat * 5)).off + 2, none⟩ = some (.string ((rd_Item l0_2 (ji24)).f2)) ∧ w'.cell? ⟨(ad548.add (((ji24)).toNat * 5)).block, (ad548.add (((ji24)).toNat * 5)).off + 3, none⟩ = some (.int .i64 ((rd_Item l0_2 (ji24)).f3)) ∧ w'.cell? ⟨(ad548.add (((ji24)).toNat * 5)).block, (ad548.add (((ji24)).toNat * 5)).off + 4, none⟩ = some (.int .i64 ((rd_Item l0_2 (ji24)).f4))) (ds := []) impl_RowOk.m0 (by kernel_rfl) rfl rfl ⟨bc_ BK549 0, bc_ BK549 1, bc_ BK549 2, bc_ BK549 3, bc_ BK549 4, bc_ BK546 0, bc_ BK546 1, bc_ BK546 2, (hd_ HB hw551_0), (hd_ HB hw551_1), (hd_ HB hw551_2), (hd_ HB hw551_3), (hd_ HB hw551_4)⟩ (fun hHeld => ?_); refine with_tabW impl_RowOk.tab6 impl_RowOk.bits6 (fun HT_ HW_ => ?_)
                   generalize w41.drew = w42 at BK546 BK549 HB hx551_0 hx551_1 hx551_2 hx551_3 hx551_4 hHeld ⊢
                   refine pI_ 0 30 HT_ impl_RowOk.m1 rfl rfl ?_
                   refine pI_ 2 32 HT_ impl_RowOk.m2 rfl rfl ?_
                   refine pI_ 4 34 HT_ impl_RowOk.m3 rfl rfl ?_
                   refine tk_ 1 31 HT_ HW_ impl_RowOk.m4 rfl rfl hHeld ?_
                   refine tk_ 3 33 HT_ HW_ impl_RowOk.m5 rfl rfl hHeld ?_
                   refine tk_ 5 35 HT_ HW_ impl_RowOk.m6 rfl rfl hHeld ?_
                   refine pI_ 6 36 HT_ impl_RowOk.m7 rfl rfl ?_
                   refine on_ 7 37 HT_ impl_RowOk.m8 rfl rfl (fun K hK => ?_)
                   refine goes_ Try.func58 (by kernel_rfl) rfl #[.int .i64 ((rd_Item l0_2 x25_3).f0), .int .i64 a0_0, .int .i64 (wrap64 (a0_1 - 1))] (by rfl) rfl rfl sm_ ?_
                   with_reducible refine (impl_within.calls ((rd_Item l0_2 x25_3).f0) a0_0 (wrap64 (a0_1 - 1)) true _ A21.out).mono ?_
                   rintro e w' ⟨rfl, ⟨nd, rfl⟩⟩
                   refine ⟨_, rfl, ?_⟩
                   refine hK.out _ _ ⟨bc_ BK549 0, bc_ BK549 1, bc_ BK549 2, bc_ BK549 3, bc_ BK549 4, bc_ BK546 0, bc_ BK546 1, bc_ BK546 2, (hd_ HB hw551_0), (hd_ HB hw551_1), (hd_ HB hw551_2), (hd_ HB hw551_3), (hd_ HB hw551_4)⟩ (fun hHeld => ?_)
                   clear hK K
                   refine nm_ ?_
                   refine pI_ 8 38 HT_ impl_RowOk.m9 rfl rfl ?_
                   refine pI_ 9 39 HT_ impl_RowOk.m10 rfl rfl ?_
                   refine pI_ 10 40 HT_ impl_RowOk.m11 rfl rfl ?_
                   refine pI_ 11 41 HT_ impl_RowOk.m12 rfl rfl ?_
                   refine pI_ 12 42 HT_ impl_RowOk.m13 rfl rfl ?_
                   refine pI_ 13 43 HT_ impl_RowOk.m14 rfl rfl ?_
                   refine pI_ 15 45 HT_ impl_RowOk.m15 rfl rfl ?_
                   refine pI_ 16 46 HT_ impl_RowOk.m16 rfl rfl ?_
                   refine pI_ 20 50 HT_ impl_RowOk.m17 rfl rfl ?_
                   refine tk_ 14 44 HT_ HW_ impl_RowOk.m18 rfl rfl hHeld ?_
                   refine pI_ 17 47 HT_ impl_RowOk.m19 rfl rfl ?_
                   refine pI_ 18 48 HT_ impl_RowOk.m20 rfl rfl ?_
                   refine tk_ 19 49 HT_ HW_ impl_RowOk.m21 rfl rfl hHeld ?_
                   refine tk_ 21 51 HT_ HW_ impl_RowOk.m22 rfl rfl hHeld ?_
                   refine pI_ 22 52 HT_ impl_RowOk.m23 rfl rfl ?_
                   refine pI_ 23 53 HT_ impl_RowOk.m24 rfl rfl ?_
                   refine pI_ 24 54 HT_ impl_RowOk.m25 rfl rfl ?_
                   refine pI_ 25 55 HT_ impl_RowOk.m26 rfl rfl ?_
                   refine pI_ 26 56 HT_ impl_RowOk.m27 rfl rfl ?_
                   refine tk_ 27 57 HT_ HW_ impl_RowOk.m28 rfl rfl hHeld ?_
                   refine on_ 28 58 HT_ impl_RowOk.m29 rfl rfl (fun K hK => ?_)
                   refine goes_ Try.func59 (by kernel_rfl) rfl #[.string ((rd_Item l0_2 x25_3).f1)] (by rfl) rfl rfl sm_ ?_
                   with_reducible refine (impl_wordsOk.calls kj12 ((rd_Item l0_2 x25_3).f1) true _ A30.out).mono ?_
                   rintro e w' ⟨rfl, ⟨nd, rfl⟩⟩
                   refine ⟨_, rfl, ?_⟩
                   refine hK.out _ _ ⟨bc_ BK549 0, bc_ BK549 1, bc_ BK549 2, bc_ BK549 3, bc_ BK549 4, bc_ BK546 0, bc_ BK546 1, bc_ BK546 2, (hd_ HB hw551_0), (hd_ HB hw551_1), (hd_ HB hw551_2), (hd_ HB hw551_3), (hd_ HB hw551_4)⟩ (fun hHeld => ?_)
                   clear hK K
                   refine nm_ ?_
                   refine pI_ 29 59 HT_ impl_RowOk.m30 rfl rfl ?_
                   refine pI_ 30 60 HT_ impl_RowOk.m31 rfl rfl ?_
                   refine pI_ 31 61 HT_ impl_RowOk.m32 rfl rfl ?_
                   refine pI_ 32 62 HT_ impl_RowOk.m33 rfl rfl ?_
                   refine tk_ 33 63 HT_ HW_ impl_RowOk.m34 rfl rfl hHeld ?_
                   refine on_ 34 64 HT_ impl_RowOk.m35 rfl rfl (fun K hK => ?_)
                   refine goes_ Try.func59 (by kernel_rfl) rfl #[.string ((rd_Item l0_2 x25_3).f2)] (by rfl) rfl rfl sm_ ?_
                   with_reducible refine (impl_wordsOk.calls kj12 ((rd_Item l0_2 x25_3).f2) false _ A32.out).mono ?_
                   rintro e w' ⟨rfl, ⟨nd, rfl⟩⟩
                   refine ⟨_, rfl, ?_⟩
                   refine hK.out _ _ ⟨bc_ BK549 0, bc_ BK549 1, bc_ BK549 2, bc_ BK549 3, bc_ BK549 4, bc_ BK546 0, bc_ BK546 1, bc_ BK546 2, (hd_ HB hw551_0), (hd_ HB hw551_1), (hd_ HB hw551_2), (hd_ HB hw551_3), (hd_ HB hw551_4)⟩ (fun hHeld => ?_)
                   clear hK K
                   refine nm_ ?_
                   refine pI_ 35 65 HT_ impl_RowOk.m36 rfl rfl ?_
                   refine pI_ 36 66 HT_ impl_RowOk.m37 rfl rfl ?_
                   refine pI_ 37 67 HT_ impl_RowOk.m38 rfl rfl ?_
                   refine pU_ 38 68 HT_ impl_RowOk.m39 rfl rfl ?_
                   refine pU_ 39 69 HT_ impl_RowOk.m40 rfl rfl ?_
                   refine pU_ 40 70 HT_ impl_RowOk.m41 rfl rfl ?_
                   refine pU_ 41 71 HT_ impl_RowOk.m42 rfl rfl ?_
                   refine pI_ 42 72 HT_ impl_RowOk.m43 rfl rfl ?_
                   refine pI_ 43 73 HT_ impl_RowOk.m44 rfl rfl ?_
                   refine pU_ 44 74 HT_ impl_RowOk.m45 rfl rfl ?_
                   refine pU_ 45 75 HT_ impl_RowOk.m46 rfl rfl ?_
                   refine pU_ 46 76 HT_ impl_RowOk.m47 rfl rfl ?_
                   refine pU_ 47 77 HT_ impl_RowOk.m48 rfl rfl ?_
                   refine pI_ 48 78 HT_ impl_RowOk.m49 rfl rfl ?_
                   refine done_ (done_of HT_.out (by kernel_rfl)) ?_
                   try go_wp2
                   go_meet
                   case rel => exact ⟨_, (true), (qb1_), H', ⟨qb0_⟩, ⟨bq_ BK546.out⟩, ⟨bq_ BK549.out⟩, ⟨hb_ HB.out⟩⟩
                 ·
                  replace c31 := Bool.eq_false_iff.mpr c31
                  subst c31
                  have H1 : (impl_RowOk.j4 kj12 l0_2 (l0_2.length : Int) x25_3 true a0_0 a0_1 l0_2) = some r := by rw [if_neg (show ¬ (false = true) by decide)] at H; exact H
                  clear H
                  have H := H1
                  clear H1
                  have H' := Aside0.mk H
                  clear H
                  try go_wp2
                  obtain ⟨w43, qe_⟩ : ∃ x_, x_ = (((((w18.setCell ⟨gb549, 0, none⟩ (.int .i64 ((rd_Item l0_2 x25_3).f0))).setCell ⟨gb549, 1, none⟩ (.string ((rd_Item l0_2 x25_3).f1))).setCell ⟨gb549, 2, none⟩ (.string ((rd_Item l0_2 x25_3).f2))).setCell ⟨gb549, 3, none⟩ (.int .i64 ((rd_Item l0_2 x25_3).f3))).setCell ⟨gb549, 4, none⟩ (.int .i64 ((rd_Item l0_2 x25_3).f4))) := ⟨_, rfl⟩
                  rw [← qe_]
                  replace BK546 := fl_ qe_ BK546
                  replace BK549 : Aside0 (w43.heap[gb549]? = some (.cells #[.int .i64 ((rd_Item l0_2 x25_3).f0), .string ((rd_Item l0_2 x25_3).f1), .string ((rd_Item l0_2 x25_3).f2), .int .i64 ((rd_Item l0_2 x25_3).f3), .int .i64 ((rd_Item l0_2 x25_3).f4)] 33 (0, 0))) := ⟨qb2_⟩
                  replace HB : Aside0 (Below w.heap.size w w43) := ⟨by rw [qe_]; exact hb_ HB.out⟩
                  clear qe_
                  replace BK546 := Aside0.mk (blk_drew BK546.out)
                  replace BK549 := Aside0.mk (blk_drew BK549.out)
                  replace HB := Aside0.mk (below_drew1 HB.out)
                  have p551 : 0 ≤ ((ji24) : Int) := of_decide_eq_true dt_
                  have q551 : (ji24) < (l0_2.length : Int) := of_decide_eq_true dt_
                  obtain ⟨ad551, e551, hx551_0, hx551_1, hx551_2, hx551_3, hx551_4⟩ := at_Item HR0_2.out (ji24) p551 q551
                  have hw551_4 := hx551_4
                  have hw551_3 := hx551_3
                  have hw551_2 := hx551_2
                  have hw551_1 := hx551_1
                  have hw551_0 := hx551_0
                  obtain rfl : ad548 = ad551 := (by injection e551)
                  replace hx551_0 := hc_ HB hx551_0
                  replace hx551_1 := hc_ HB hx551_1
                  replace hx551_2 := hc_ HB hx551_2
                  replace hx551_3 := hc_ HB hx551_3
                  replace hx551_4 := hc_ HB hx551_4
                  replace p551 := eq_true p551
                  replace q551 := eq_true q551
                  refine start_ (n := 49) (S := fun w' => w'.cell? ⟨gb549, 0, none⟩ = some (.int .i64 ((rd_Item l0_2 x25_3).f0)) ∧ w'.cell? ⟨gb549, 1, none⟩ = some (.string ((rd_Item l0_2 x25_3).f1)) ∧ w'.cell? ⟨gb549, 2, none⟩ = some (.string ((rd_Item l0_2 x25_3).f2)) ∧ w'.cell? ⟨gb549, 3, none⟩ = some (.int .i64 ((rd_Item l0_2 x25_3).f3)) ∧ w'.cell? ⟨gb549, 4, none⟩ = some (.int .i64 ((rd_Item l0_2 x25_3).f4)) ∧ w'.cell? ⟨gb546, 0, none⟩ = some (.int .i64 a0_0) ∧ w'.cell? ⟨gb546, 1, none⟩ = some (.int .i64 a0_1) ∧ w'.cell? ⟨gb546, 2, none⟩ = some (.slice (some ad548) l0_2.length c0_2) ∧ w'.cell? (ad548.add (((ji24)).toNat * 5)) = some (.int .i64 ((rd_Item l0_2 (ji24)).f0)) ∧ w'.cell? ⟨(ad548.add (((ji24)).toNat * 5)).block, (ad548.add (((ji24)).toNat * 5)).off + 1, none⟩ = some (.string ((rd_Item l0_2 (ji24)).f1)) ∧ w'.cell? ⟨(ad548.add (((ji24)).toNat * 5)).block, (ad548.add (((ji24)).toNat * 5)).off + 2, none⟩ = some (.string ((rd_Item l0_2 (ji24)).f2)) ∧ w'.cell? ⟨(ad548.add (((ji24)).toNat * 5)).block, (ad548.add (((ji24)).toNat * 5)).off + 3, none⟩ = some (.int .i64 ((rd_Item l0_2 (ji24)).f3)) ∧ w'.cell? ⟨(ad548.add (((ji24)).toNat * 5)).block, (ad548.add (((ji24)).toNat * 5)).off + 4, none⟩ = some (.int .i64 ((rd_Item l0_2 (ji24)).f4))) (ds := []) impl_RowOk.m0 (by kernel_rfl) rfl rfl ⟨bc_ BK549 0, bc_ BK549 1, bc_ BK549 2, bc_ BK549 3, bc_ BK549 4, bc_ BK546 0, bc_ BK546 1, bc_ BK546 2, (hd_ HB hw551_0), (hd_ HB hw551_1), (hd_ HB hw551_2), (hd_ HB hw551_3), (hd_ HB hw551_4)⟩ (fun hHeld => ?_); refine with_tabW impl_RowOk.tab6 impl_RowOk.bits6 (fun HT_ HW_ => ?_)
                  generalize w43.drew = w44 at BK546 BK549 HB hx551_0 hx551_1 hx551_2 hx551_3 hx551_4 hHeld ⊢
                  refine pI_ 0 30 HT_ impl_RowOk.m1 rfl rfl ?_
                  refine pI_ 2 32 HT_ impl_RowOk.m2 rfl rfl ?_
                  refine pI_ 4 34 HT_ impl_RowOk.m3 rfl rfl ?_
                  refine tk_ 1 31 HT_ HW_ impl_RowOk.m4 rfl rfl hHeld ?_
                  refine tk_ 3 33 HT_ HW_ impl_RowOk.m5 rfl rfl hHeld ?_
                  refine tk_ 5 35 HT_ HW_ impl_RowOk.m6 rfl rfl hHeld ?_
                  refine pI_ 6 36 HT_ impl_RowOk.m7 rfl rfl ?_
                  refine on_ 7 37 HT_ impl_RowOk.m8 rfl rfl (fun K hK => ?_)
                  refine goes_ Try.func58 (by kernel_rfl) rfl #[.int .i64 ((rd_Item l0_2 x25_3).f0), .int .i64 a0_0, .int .i64 (wrap64 (a0_1 - 1))] (by rfl) rfl rfl sm_ ?_
                  with_reducible refine (impl_within.calls ((rd_Item l0_2 x25_3).f0) a0_0 (wrap64 (a0_1 - 1)) true _ A21.out).mono ?_
                  rintro e w' ⟨rfl, ⟨nd, rfl⟩⟩
                  refine ⟨_, rfl, ?_⟩
                  refine hK.out _ _ ⟨bc_ BK549 0, bc_ BK549 1, bc_ BK549 2, bc_ BK549 3, bc_ BK549 4, bc_ BK546 0, bc_ BK546 1, bc_ BK546 2, (hd_ HB hw551_0), (hd_ HB hw551_1), (hd_ HB hw551_2), (hd_ HB hw551_3), (hd_ HB hw551_4)⟩ (fun hHeld => ?_)
                  clear hK K
                  refine nm_ ?_
                  refine pI_ 8 38 HT_ impl_RowOk.m9 rfl rfl ?_
                  refine pI_ 9 39 HT_ impl_RowOk.m10 rfl rfl ?_
                  refine pI_ 10 40 HT_ impl_RowOk.m11 rfl rfl ?_
                  refine pI_ 11 41 HT_ impl_RowOk.m12 rfl rfl ?_
                  refine pI_ 12 42 HT_ impl_RowOk.m13 rfl rfl ?_
                  refine pI_ 13 43 HT_ impl_RowOk.m14 rfl rfl ?_
                  refine pI_ 15 45 HT_ impl_RowOk.m15 rfl rfl ?_
                  refine pI_ 16 46 HT_ impl_RowOk.m16 rfl rfl ?_
                  refine pI_ 20 50 HT_ impl_RowOk.m17 rfl rfl ?_
                  refine tk_ 14 44 HT_ HW_ impl_RowOk.m18 rfl rfl hHeld ?_
                  refine pI_ 17 47 HT_ impl_RowOk.m19 rfl rfl ?_
                  refine pI_ 18 48 HT_ impl_RowOk.m20 rfl rfl ?_
                  refine tk_ 19 49 HT_ HW_ impl_RowOk.m21 rfl rfl hHeld ?_
                  refine tk_ 21 51 HT_ HW_ impl_RowOk.m22 rfl rfl hHeld ?_
                  refine pI_ 22 52 HT_ impl_RowOk.m23 rfl rfl ?_
                  refine pI_ 23 53 HT_ impl_RowOk.m24 rfl rfl ?_
                  refine pI_ 24 54 HT_ impl_RowOk.m25 rfl rfl ?_
                  refine pI_ 25 55 HT_ impl_RowOk.m26 rfl rfl ?_
                  refine pI_ 26 56 HT_ impl_RowOk.m27 rfl rfl ?_
                  refine tk_ 27 57 HT_ HW_ impl_RowOk.m28 rfl rfl hHeld ?_
                  refine on_ 28 58 HT_ impl_RowOk.m29 rfl rfl (fun K hK => ?_)
                  refine goes_ Try.func59 (by kernel_rfl) rfl #[.string ((rd_Item l0_2 x25_3).f1)] (by rfl) rfl rfl sm_ ?_
                  with_reducible refine (impl_wordsOk.calls kj12 ((rd_Item l0_2 x25_3).f1) false _ A30.out).mono ?_
                  rintro e w' ⟨rfl, ⟨nd, rfl⟩⟩
                  refine ⟨_, rfl, ?_⟩
                  refine hK.out _ _ ⟨bc_ BK549 0, bc_ BK549 1, bc_ BK549 2, bc_ BK549 3, bc_ BK549 4, bc_ BK546 0, bc_ BK546 1, bc_ BK546 2, (hd_ HB hw551_0), (hd_ HB hw551_1), (hd_ HB hw551_2), (hd_ HB hw551_3), (hd_ HB hw551_4)⟩ (fun hHeld => ?_)
                  clear hK K
                  refine nm_ ?_
                  refine pI_ 29 59 HT_ impl_RowOk.m30 rfl rfl ?_
                  refine pI_ 30 60 HT_ impl_RowOk.m31 rfl rfl ?_
                  refine pI_ 31 61 HT_ impl_RowOk.m32 rfl rfl ?_
                  refine pU_ 32 62 HT_ impl_RowOk.m33 rfl rfl ?_
                  refine pU_ 33 63 HT_ impl_RowOk.m34 rfl rfl ?_
                  refine pU_ 34 64 HT_ impl_RowOk.m35 rfl rfl ?_
                  refine pU_ 35 65 HT_ impl_RowOk.m36 rfl rfl ?_
                  refine pI_ 36 66 HT_ impl_RowOk.m37 rfl rfl ?_
                  refine pI_ 37 67 HT_ impl_RowOk.m38 rfl rfl ?_
                  refine pU_ 38 68 HT_ impl_RowOk.m39 rfl rfl ?_
                  refine pU_ 39 69 HT_ impl_RowOk.m40 rfl rfl ?_
                  refine pU_ 40 70 HT_ impl_RowOk.m41 rfl rfl ?_
                  refine pU_ 41 71 HT_ impl_RowOk.m42 rfl rfl ?_
                  refine pI_ 42 72 HT_ impl_RowOk.m43 rfl rfl ?_
                  refine pI_ 43 73 HT_ impl_RowOk.m44 rfl rfl ?_
                  refine pU_ 44 74 HT_ impl_RowOk.m45 rfl rfl ?_
                  refine pU_ 45 75 HT_ impl_RowOk.m46 rfl rfl ?_
                  refine pU_ 46 76 HT_ impl_RowOk.m47 rfl rfl ?_
                  refine pU_ 47 77 HT_ impl_RowOk.m48 rfl rfl ?_
                  refine pI_ 48 78 HT_ impl_RowOk.m49 rfl rfl ?_
                  refine done_ (done_of HT_.out (by kernel_rfl)) ?_
                  try go_wp2
                  go_meet
                  case rel => exact ⟨_, (true), (qb1_), H', ⟨qb0_⟩, ⟨bq_ BK546.out⟩, ⟨bq_ BK549.out⟩, ⟨hb_ HB.out⟩⟩
               ·
                rw [if_neg c26] at H
                exact absurd H (by simp)
              ·
               rw [if_neg c25] at H
               exact absurd H (by simp)
             ·
              rw [if_neg c23] at H
              have c23b0 : decide (0 < x25_3) = false := decide_eq_false c23
              clear c23
              (first | rw [c23b0] | (simp only [i64_w, i32_w]; rw [c23b0]) | rw [c23b4] | rw [c23b3] | skip)
              replace H := Option.bind_eq_some_iff.mp H
              obtain ⟨t556, A450, H⟩ := H
              replace H : (if t556 = true then ((impl_wordsOk.f kj12 ((rd_Item l0_2 x25_3).f2)).bind fun t557 => (if t557 = true then ((impl_within.f ((rd_Item l0_2 x25_3).f3) 0 3).bind fun t558 => (if t558 = true then ((impl_within.f ((rd_Item l0_2 x25_3).f4) 0 100000).bind fun t559 => (impl_RowOk.j4 kj12 l0_2 (l0_2.length : Int) x25_3 (!t559) a0_0 a0_1 l0_2)) else (impl_RowOk.j4 kj12 l0_2 (l0_2.length : Int) x25_3 true a0_0 a0_1 l0_2))) else (impl_RowOk.j4 kj12 l0_2 (l0_2.length : Int) x25_3 true a0_0 a0_1 l0_2))) else (impl_RowOk.j4 kj12 l0_2 (l0_2.length : Int) x25_3 true a0_0 a0_1 l0_2)) = some r := H
              have A45 := Aside0.mk A450
              clear A450
              by_cases c46 : t556 = true
              ·
               subst c46
               have H1 : ((impl_wordsOk.f kj12 ((rd_Item l0_2 x25_3).f2)).bind fun t557 => (if t557 = true then ((impl_within.f ((rd_Item l0_2 x25_3).f3) 0 3).bind fun t558 => (if t558 = true then ((impl_within.f ((rd_Item l0_2 x25_3).f4) 0 100000).bind fun t559 => (impl_RowOk.j4 kj12 l0_2 (l0_2.length : Int) x25_3 (!t559) a0_0 a0_1 l0_2)) else (impl_RowOk.j4 kj12 l0_2 (l0_2.length : Int) x25_3 true a0_0 a0_1 l0_2))) else (impl_RowOk.j4 kj12 l0_2 (l0_2.length : Int) x25_3 true a0_0 a0_1 l0_2))) = some r := by rw [if_pos rfl] at H; exact H
               clear H
               have H := H1
               clear H1
               replace H := Option.bind_eq_some_iff.mp H
               obtain ⟨t557, A470, H⟩ := H
               replace H : (if t557 = true then ((impl_within.f ((rd_Item l0_2 x25_3).f3) 0 3).bind fun t558 => (if t558 = true then ((impl_within.f ((rd_Item l0_2 x25_3).f4) 0 100000).bind fun t559 => (impl_RowOk.j4 kj12 l0_2 (l0_2.length : Int) x25_3 (!t559) a0_0 a0_1 l0_2)) else (impl_RowOk.j4 kj12 l0_2 (l0_2.length : Int) x25_3 true a0_0 a0_1 l0_2))) else (impl_RowOk.j4 kj12 l0_2 (l0_2.length : Int) x25_3 true a0_0 a0_1 l0_2)) = some r := H
               have A47 := Aside0.mk A470
               clear A470
               by_cases c48 : t557 = true
               ·
                subst c48
                have H1 : ((impl_within.f ((rd_Item l0_2 x25_3).f3) 0 3).bind fun t558 => (if t558 = true then ((impl_within.f ((rd_Item l0_2 x25_3).f4) 0 100000).bind fun t559 => (impl_RowOk.j4 kj12 l0_2 (l0_2.length : Int) x25_3 (!t559) a0_0 a0_1 l0_2)) else (impl_RowOk.j4 kj12 l0_2 (l0_2.length : Int) x25_3 true a0_0 a0_1 l0_2))) = some r := by rw [if_pos rfl] at H; exact H
                clear H
                have H := H1
                clear H1
                replace H := Option.bind_eq_some_iff.mp H
                obtain ⟨t558, A490, H⟩ := H
                replace H : (if t558 = true then ((impl_within.f ((rd_Item l0_2 x25_3).f4) 0 100000).bind fun t559 => (impl_RowOk.j4 kj12 l0_2 (l0_2.length : Int) x25_3 (!t559) a0_0 a0_1 l0_2)) else (impl_RowOk.j4 kj12 l0_2 (l0_2.length : Int) x25_3 true a0_0 a0_1 l0_2)) = some r := H
                have A49 := Aside0.mk A490
                clear A490
                by_cases c50 : t558 = true
                ·
                 subst c50
                 have H1 : ((impl_within.f ((rd_Item l0_2 x25_3).f4) 0 100000).bind fun t559 => (impl_RowOk.j4 kj12 l0_2 (l0_2.length : Int) x25_3 (!t559) a0_0 a0_1 l0_2)) = some r := by rw [if_pos rfl] at H; exact H
                 clear H
                 have H := H1
                 clear H1
                 replace H := Option.bind_eq_some_iff.mp H
                 obtain ⟨t559, A510, H⟩ := H
                 replace H : (impl_RowOk.j4 kj12 l0_2 (l0_2.length : Int) x25_3 (!t559) a0_0 a0_1 l0_2) = some r := H
                 have A51 := Aside0.mk A510
                 clear A510
                 have H' := Aside0.mk H
                 clear H
                 try go_wp2
                 obtain ⟨w52, qe_⟩ : ∃ x_, x_ = (((((w18.setCell ⟨gb549, 0, none⟩ (.int .i64 ((rd_Item l0_2 x25_3).f0))).setCell ⟨gb549, 1, none⟩ (.string ((rd_Item l0_2 x25_3).f1))).setCell ⟨gb549, 2, none⟩ (.string ((rd_Item l0_2 x25_3).f2))).setCell ⟨gb549, 3, none⟩ (.int .i64 ((rd_Item l0_2 x25_3).f3))).setCell ⟨gb549, 4, none⟩ (.int .i64 ((rd_Item l0_2 x25_3).f4))) := ⟨_, rfl⟩
                 rw [← qe_]
                 replace BK546 := fl_ qe_ BK546
                 replace BK549 : Aside0 (w52.heap[gb549]? = some (.cells #[.int .i64 ((rd_Item l0_2 x25_3).f0), .string ((rd_Item l0_2 x25_3).f1), .string ((rd_Item l0_2 x25_3).f2), .int .i64 ((rd_Item l0_2 x25_3).f3), .int .i64 ((rd_Item l0_2 x25_3).f4)] 33 (0, 0))) := ⟨qb2_⟩
                 replace HB : Aside0 (Below w.heap.size w w52) := ⟨by rw [qe_]; exact hb_ HB.out⟩
                 clear qe_
                 replace BK546 := Aside0.mk (blk_drew BK546.out)
                 replace BK549 := Aside0.mk (blk_drew BK549.out)
                 replace HB := Aside0.mk (below_drew1 HB.out)
                 refine start_ (n := 49) (S := fun w' => w'.cell? ⟨gb549, 0, none⟩ = some (.int .i64 ((rd_Item l0_2 x25_3).f0)) ∧ w'.cell? ⟨gb549, 1, none⟩ = some (.string ((rd_Item l0_2 x25_3).f1)) ∧ w'.cell? ⟨gb549, 2, none⟩ = some (.string ((rd_Item l0_2 x25_3).f2)) ∧ w'.cell? ⟨gb549, 3, none⟩ = some (.int .i64 ((rd_Item l0_2 x25_3).f3)) ∧ w'.cell? ⟨gb549, 4, none⟩ = some (.int .i64 ((rd_Item l0_2 x25_3).f4)) ∧ w'.cell? ⟨gb546, 0, none⟩ = some (.int .i64 a0_0) ∧ w'.cell? ⟨gb546, 1, none⟩ = some (.int .i64 a0_1) ∧ w'.cell? ⟨gb546, 2, none⟩ = some (.slice (some ad548) l0_2.length c0_2)) (ds := []) impl_RowOk.m0 (by kernel_rfl) rfl rfl ⟨bc_ BK549 0, bc_ BK549 1, bc_ BK549 2, bc_ BK549 3, bc_ BK549 4, bc_ BK546 0, bc_ BK546 1, bc_ BK546 2⟩ (fun hHeld => ?_); refine with_tabW impl_RowOk.tab6 impl_RowOk.bits6 (fun HT_ HW_ => ?_)
                 generalize w52.drew = w53 at BK546 BK549 HB hHeld ⊢
                 refine pI_ 0 30 HT_ impl_RowOk.m1 rfl rfl ?_
                 refine pI_ 2 32 HT_ impl_RowOk.m2 rfl rfl ?_
                 refine pI_ 4 34 HT_ impl_RowOk.m3 rfl rfl ?_
                 refine tk_ 1 31 HT_ HW_ impl_RowOk.m4 rfl rfl hHeld ?_
                 refine tk_ 3 33 HT_ HW_ impl_RowOk.m5 rfl rfl hHeld ?_
                 refine tk_ 5 35 HT_ HW_ impl_RowOk.m6 rfl rfl hHeld ?_
                 refine pI_ 6 36 HT_ impl_RowOk.m7 rfl rfl ?_
                 refine on_ 7 37 HT_ impl_RowOk.m8 rfl rfl (fun K hK => ?_)
                 refine goes_ Try.func58 (by kernel_rfl) rfl #[.int .i64 ((rd_Item l0_2 x25_3).f0), .int .i64 a0_0, .int .i64 (wrap64 (a0_1 - 1))] (by rfl) rfl rfl sm_ ?_
                 with_reducible refine (impl_within.calls ((rd_Item l0_2 x25_3).f0) a0_0 (wrap64 (a0_1 - 1)) true _ A21.out).mono ?_
                 rintro e w' ⟨rfl, ⟨nd, rfl⟩⟩
                 refine ⟨_, rfl, ?_⟩
                 refine hK.out _ _ ⟨bc_ BK549 0, bc_ BK549 1, bc_ BK549 2, bc_ BK549 3, bc_ BK549 4, bc_ BK546 0, bc_ BK546 1, bc_ BK546 2⟩ (fun hHeld => ?_)
                 clear hK K
                 refine nm_ ?_
                 refine pI_ 8 38 HT_ impl_RowOk.m9 rfl rfl ?_
                 refine pI_ 9 39 HT_ impl_RowOk.m10 rfl rfl ?_
                 refine pI_ 10 40 HT_ impl_RowOk.m11 rfl rfl ?_
                 refine pI_ 11 41 HT_ impl_RowOk.m12 rfl rfl ?_
                 refine pI_ 12 42 HT_ impl_RowOk.m13 rfl rfl ?_
                 refine pU_ 13 43 HT_ impl_RowOk.m14 rfl rfl ?_
                 refine pU_ 14 44 HT_ impl_RowOk.m50 rfl rfl ?_
                 refine pU_ 15 45 HT_ impl_RowOk.m51 rfl rfl ?_
                 refine pU_ 16 46 HT_ impl_RowOk.m52 rfl rfl ?_
                 refine pU_ 17 47 HT_ impl_RowOk.m53 rfl rfl ?_
                 refine pU_ 18 48 HT_ impl_RowOk.m54 rfl rfl ?_
                 refine pU_ 19 49 HT_ impl_RowOk.m55 rfl rfl ?_
                 refine pU_ 20 50 HT_ impl_RowOk.m21 rfl rfl ?_
                 refine pU_ 21 51 HT_ impl_RowOk.m22 rfl rfl ?_
                 refine pU_ 22 52 HT_ impl_RowOk.m23 rfl rfl ?_
                 refine pI_ 23 53 HT_ impl_RowOk.m24 rfl rfl ?_
                 refine pI_ 24 54 HT_ impl_RowOk.m25 rfl rfl ?_
                 refine pI_ 25 55 HT_ impl_RowOk.m26 rfl rfl ?_
                 refine pI_ 26 56 HT_ impl_RowOk.m27 rfl rfl ?_
                 refine tk_ 27 57 HT_ HW_ impl_RowOk.m28 rfl rfl hHeld ?_
                 refine on_ 28 58 HT_ impl_RowOk.m29 rfl rfl (fun K hK => ?_)
                 refine goes_ Try.func59 (by kernel_rfl) rfl #[.string ((rd_Item l0_2 x25_3).f1)] (by rfl) rfl rfl sm_ ?_
                 with_reducible refine (impl_wordsOk.calls kj12 ((rd_Item l0_2 x25_3).f1) true _ A45.out).mono ?_
                 rintro e w' ⟨rfl, ⟨nd, rfl⟩⟩
                 refine ⟨_, rfl, ?_⟩
                 refine hK.out _ _ ⟨bc_ BK549 0, bc_ BK549 1, bc_ BK549 2, bc_ BK549 3, bc_ BK549 4, bc_ BK546 0, bc_ BK546 1, bc_ BK546 2⟩ (fun hHeld => ?_)
                 clear hK K
                 refine nm_ ?_
                 refine pI_ 29 59 HT_ impl_RowOk.m30 rfl rfl ?_
                 refine pI_ 30 60 HT_ impl_RowOk.m31 rfl rfl ?_
                 refine pI_ 31 61 HT_ impl_RowOk.m32 rfl rfl ?_
                 refine pI_ 32 62 HT_ impl_RowOk.m33 rfl rfl ?_
                 refine tk_ 33 63 HT_ HW_ impl_RowOk.m34 rfl rfl hHeld ?_
                 refine on_ 34 64 HT_ impl_RowOk.m35 rfl rfl (fun K hK => ?_)
                 refine goes_ Try.func59 (by kernel_rfl) rfl #[.string ((rd_Item l0_2 x25_3).f2)] (by rfl) rfl rfl sm_ ?_
                 with_reducible refine (impl_wordsOk.calls kj12 ((rd_Item l0_2 x25_3).f2) true _ A47.out).mono ?_
                 rintro e w' ⟨rfl, ⟨nd, rfl⟩⟩
                 refine ⟨_, rfl, ?_⟩
                 refine hK.out _ _ ⟨bc_ BK549 0, bc_ BK549 1, bc_ BK549 2, bc_ BK549 3, bc_ BK549 4, bc_ BK546 0, bc_ BK546 1, bc_ BK546 2⟩ (fun hHeld => ?_)
                 clear hK K
                 refine nm_ ?_
                 refine pI_ 35 65 HT_ impl_RowOk.m36 rfl rfl ?_
                 refine pI_ 36 66 HT_ impl_RowOk.m37 rfl rfl ?_
                 refine pI_ 37 67 HT_ impl_RowOk.m38 rfl rfl ?_
                 refine pI_ 38 68 HT_ impl_RowOk.m39 rfl rfl ?_
                 refine tk_ 39 69 HT_ HW_ impl_RowOk.m40 rfl rfl hHeld ?_
                 refine on_ 40 70 HT_ impl_RowOk.m41 rfl rfl (fun K hK => ?_)
                 refine goes_ Try.func58 (by kernel_rfl) rfl #[.int .i64 ((rd_Item l0_2 x25_3).f3), .int .i64 0, .int .i64 3] (by rfl) rfl rfl sm_ ?_
                 with_reducible refine (impl_within.calls ((rd_Item l0_2 x25_3).f3) 0 3 true _ A49.out).mono ?_
                 rintro e w' ⟨rfl, ⟨nd, rfl⟩⟩
                 refine ⟨_, rfl, ?_⟩
                 refine hK.out _ _ ⟨bc_ BK549 0, bc_ BK549 1, bc_ BK549 2, bc_ BK549 3, bc_ BK549 4, bc_ BK546 0, bc_ BK546 1, bc_ BK546 2⟩ (fun hHeld => ?_)
                 clear hK K
                 refine nm_ ?_
                 refine pI_ 41 71 HT_ impl_RowOk.m42 rfl rfl ?_
                 refine pI_ 42 72 HT_ impl_RowOk.m43 rfl rfl ?_
                 refine pI_ 43 73 HT_ impl_RowOk.m44 rfl rfl ?_
                 refine pI_ 44 74 HT_ impl_RowOk.m45 rfl rfl ?_
                 refine tk_ 45 75 HT_ HW_ impl_RowOk.m46 rfl rfl hHeld ?_
                 refine on_ 46 76 HT_ impl_RowOk.m47 rfl rfl (fun K hK => ?_)
                 refine goes_ Try.func58 (by kernel_rfl) rfl #[.int .i64 ((rd_Item l0_2 x25_3).f4), .int .i64 0, .int .i64 100000] (by rfl) rfl rfl sm_ ?_
                 with_reducible refine (impl_within.calls ((rd_Item l0_2 x25_3).f4) 0 100000 t559 _ A51.out).mono ?_
                 rintro e w' ⟨rfl, ⟨nd, rfl⟩⟩
                 refine ⟨_, rfl, ?_⟩
                 refine hK.out _ _ ⟨bc_ BK549 0, bc_ BK549 1, bc_ BK549 2, bc_ BK549 3, bc_ BK549 4, bc_ BK546 0, bc_ BK546 1, bc_ BK546 2⟩ (fun hHeld => ?_)
                 clear hK K
                 refine nm_ ?_
                 refine pI_ 47 77 HT_ impl_RowOk.m48 rfl rfl ?_
                 refine pI_ 48 78 HT_ impl_RowOk.m49 rfl rfl ?_
                 refine done_ (done_of HT_.out (by kernel_rfl)) ?_
                 try go_wp2
                 go_meet
                 case rel => exact ⟨_, (!t559), (qb1_), H', ⟨qb0_⟩, ⟨bq_ BK546.out⟩, ⟨bq_ BK549.out⟩, ⟨hb_ HB.out⟩⟩
                ·
                 replace c50 := Bool.eq_false_iff.mpr c50
                 subst c50
                 have H1 : (impl_RowOk.j4 kj12 l0_2 (l0_2.length : Int) x25_3 true a0_0 a0_1 l0_2) = some r := by rw [if_neg (show ¬ (false = true) by decide)] at H; exact H
                 clear H
                 have H := H1
                 clear H1
                 have H' := Aside0.mk H
                 clear H
                 try go_wp2
                 obtain ⟨w54, qe_⟩ : ∃ x_, x_ = (((((w18.setCell ⟨gb549, 0, none⟩ (.int .i64 ((rd_Item l0_2 x25_3).f0))).setCell ⟨gb549, 1, none⟩ (.string ((rd_Item l0_2 x25_3).f1))).setCell ⟨gb549, 2, none⟩ (.string ((rd_Item l0_2 x25_3).f2))).setCell ⟨gb549, 3, none⟩ (.int .i64 ((rd_Item l0_2 x25_3).f3))).setCell ⟨gb549, 4, none⟩ (.int .i64 ((rd_Item l0_2 x25_3).f4))) := ⟨_, rfl⟩
                 rw [← qe_]
                 replace BK546 := fl_ qe_ BK546
                 replace BK549 : Aside0 (w54.heap[gb549]? = some (.cells #[.int .i64 ((rd_Item l0_2 x25_3).f0), .string ((rd_Item l0_2 x25_3).f1), .string ((rd_Item l0_2 x25_3).f2), .int .i64 ((rd_Item l0_2 x25_3).f3), .int .i64 ((rd_Item l0_2 x25_3).f4)] 33 (0, 0))) := ⟨qb2_⟩
                 replace HB : Aside0 (Below w.heap.size w w54) := ⟨by rw [qe_]; exact hb_ HB.out⟩
                 clear qe_
                 replace BK546 := Aside0.mk (blk_drew BK546.out)
                 replace BK549 := Aside0.mk (blk_drew BK549.out)
                 replace HB := Aside0.mk (below_drew1 HB.out)
                 refine start_ (n := 49) (S := fun w' => w'.cell? ⟨gb549, 0, none⟩ = some (.int .i64 ((rd_Item l0_2 x25_3).f0)) ∧ w'.cell? ⟨gb549, 1, none⟩ = some (.string ((rd_Item l0_2 x25_3).f1)) ∧ w'.cell? ⟨gb549, 2, none⟩ = some (.string ((rd_Item l0_2 x25_3).f2)) ∧ w'.cell? ⟨gb549, 3, none⟩ = some (.int .i64 ((rd_Item l0_2 x25_3).f3)) ∧ w'.cell? ⟨gb549, 4, none⟩ = some (.int .i64 ((rd_Item l0_2 x25_3).f4)) ∧ w'.cell? ⟨gb546, 0, none⟩ = some (.int .i64 a0_0) ∧ w'.cell? ⟨gb546, 1, none⟩ = some (.int .i64 a0_1) ∧ w'.cell? ⟨gb546, 2, none⟩ = some (.slice (some ad548) l0_2.length c0_2)) (ds := []) impl_RowOk.m0 (by kernel_rfl) rfl rfl ⟨bc_ BK549 0, bc_ BK549 1, bc_ BK549 2, bc_ BK549 3, bc_ BK549 4, bc_ BK546 0, bc_ BK546 1, bc_ BK546 2⟩ (fun hHeld => ?_); refine with_tabW impl_RowOk.tab6 impl_RowOk.bits6 (fun HT_ HW_ => ?_)
                 generalize w54.drew = w55 at BK546 BK549 HB hHeld ⊢
                 refine pI_ 0 30 HT_ impl_RowOk.m1 rfl rfl ?_
                 refine pI_ 2 32 HT_ impl_RowOk.m2 rfl rfl ?_
                 refine pI_ 4 34 HT_ impl_RowOk.m3 rfl rfl ?_
                 refine tk_ 1 31 HT_ HW_ impl_RowOk.m4 rfl rfl hHeld ?_
                 refine tk_ 3 33 HT_ HW_ impl_RowOk.m5 rfl rfl hHeld ?_
                 refine tk_ 5 35 HT_ HW_ impl_RowOk.m6 rfl rfl hHeld ?_
                 refine pI_ 6 36 HT_ impl_RowOk.m7 rfl rfl ?_
                 refine on_ 7 37 HT_ impl_RowOk.m8 rfl rfl (fun K hK => ?_)
                 refine goes_ Try.func58 (by kernel_rfl) rfl #[.int .i64 ((rd_Item l0_2 x25_3).f0), .int .i64 a0_0, .int .i64 (wrap64 (a0_1 - 1))] (by rfl) rfl rfl sm_ ?_
                 with_reducible refine (impl_within.calls ((rd_Item l0_2 x25_3).f0) a0_0 (wrap64 (a0_1 - 1)) true _ A21.out).mono ?_
                 rintro e w' ⟨rfl, ⟨nd, rfl⟩⟩
                 refine ⟨_, rfl, ?_⟩
                 refine hK.out _ _ ⟨bc_ BK549 0, bc_ BK549 1, bc_ BK549 2, bc_ BK549 3, bc_ BK549 4, bc_ BK546 0, bc_ BK546 1, bc_ BK546 2⟩ (fun hHeld => ?_)
                 clear hK K
                 refine nm_ ?_
                 refine pI_ 8 38 HT_ impl_RowOk.m9 rfl rfl ?_
                 refine pI_ 9 39 HT_ impl_RowOk.m10 rfl rfl ?_
                 refine pI_ 10 40 HT_ impl_RowOk.m11 rfl rfl ?_
                 refine pI_ 11 41 HT_ impl_RowOk.m12 rfl rfl ?_
                 refine pI_ 12 42 HT_ impl_RowOk.m13 rfl rfl ?_
                 refine pU_ 13 43 HT_ impl_RowOk.m14 rfl rfl ?_
                 refine pU_ 14 44 HT_ impl_RowOk.m50 rfl rfl ?_
                 refine pU_ 15 45 HT_ impl_RowOk.m51 rfl rfl ?_
                 refine pU_ 16 46 HT_ impl_RowOk.m52 rfl rfl ?_
                 refine pU_ 17 47 HT_ impl_RowOk.m53 rfl rfl ?_
                 refine pU_ 18 48 HT_ impl_RowOk.m54 rfl rfl ?_
                 refine pU_ 19 49 HT_ impl_RowOk.m55 rfl rfl ?_
                 refine pU_ 20 50 HT_ impl_RowOk.m21 rfl rfl ?_
                 refine pU_ 21 51 HT_ impl_RowOk.m22 rfl rfl ?_
                 refine pU_ 22 52 HT_ impl_RowOk.m23 rfl rfl ?_
                 refine pI_ 23 53 HT_ impl_RowOk.m24 rfl rfl ?_
                 refine pI_ 24 54 HT_ impl_RowOk.m25 rfl rfl ?_
                 refine pI_ 25 55 HT_ impl_RowOk.m26 rfl rfl ?_
                 refine pI_ 26 56 HT_ impl_RowOk.m27 rfl rfl ?_
                 refine tk_ 27 57 HT_ HW_ impl_RowOk.m28 rfl rfl hHeld ?_
                 refine on_ 28 58 HT_ impl_RowOk.m29 rfl rfl (fun K hK => ?_)
                 refine goes_ Try.func59 (by kernel_rfl) rfl #[.string ((rd_Item l0_2 x25_3).f1)] (by rfl) rfl rfl sm_ ?_
                 with_reducible refine (impl_wordsOk.calls kj12 ((rd_Item l0_2 x25_3).f1) true _ A45.out).mono ?_
                 rintro e w' ⟨rfl, ⟨nd, rfl⟩⟩
                 refine ⟨_, rfl, ?_⟩
                 refine hK.out _ _ ⟨bc_ BK549 0, bc_ BK549 1, bc_ BK549 2, bc_ BK549 3, bc_ BK549 4, bc_ BK546 0, bc_ BK546 1, bc_ BK546 2⟩ (fun hHeld => ?_)
                 clear hK K
                 refine nm_ ?_
                 refine pI_ 29 59 HT_ impl_RowOk.m30 rfl rfl ?_
                 refine pI_ 30 60 HT_ impl_RowOk.m31 rfl rfl ?_
                 refine pI_ 31 61 HT_ impl_RowOk.m32 rfl rfl ?_
                 refine pI_ 32 62 HT_ impl_RowOk.m33 rfl rfl ?_
                 refine tk_ 33 63 HT_ HW_ impl_RowOk.m34 rfl rfl hHeld ?_
                 refine on_ 34 64 HT_ impl_RowOk.m35 rfl rfl (fun K hK => ?_)
                 refine goes_ Try.func59 (by kernel_rfl) rfl #[.string ((rd_Item l0_2 x25_3).f2)] (by rfl) rfl rfl sm_ ?_
                 with_reducible refine (impl_wordsOk.calls kj12 ((rd_Item l0_2 x25_3).f2) true _ A47.out).mono ?_
                 rintro e w' ⟨rfl, ⟨nd, rfl⟩⟩
                 refine ⟨_, rfl, ?_⟩
                 refine hK.out _ _ ⟨bc_ BK549 0, bc_ BK549 1, bc_ BK549 2, bc_ BK549 3, bc_ BK549 4, bc_ BK546 0, bc_ BK546 1, bc_ BK546 2⟩ (fun hHeld => ?_)
                 clear hK K
                 refine nm_ ?_
                 refine pI_ 35 65 HT_ impl_RowOk.m36 rfl rfl ?_
                 refine pI_ 36 66 HT_ impl_RowOk.m37 rfl rfl ?_
                 refine pI_ 37 67 HT_ impl_RowOk.m38 rfl rfl ?_
                 refine pI_ 38 68 HT_ impl_RowOk.m39 rfl rfl ?_
                 refine tk_ 39 69 HT_ HW_ impl_RowOk.m40 rfl rfl hHeld ?_
                 refine on_ 40 70 HT_ impl_RowOk.m41 rfl rfl (fun K hK => ?_)
                 refine goes_ Try.func58 (by kernel_rfl) rfl #[.int .i64 ((rd_Item l0_2 x25_3).f3), .int .i64 0, .int .i64 3] (by rfl) rfl rfl sm_ ?_
                 with_reducible refine (impl_within.calls ((rd_Item l0_2 x25_3).f3) 0 3 false _ A49.out).mono ?_
                 rintro e w' ⟨rfl, ⟨nd, rfl⟩⟩
                 refine ⟨_, rfl, ?_⟩
                 refine hK.out _ _ ⟨bc_ BK549 0, bc_ BK549 1, bc_ BK549 2, bc_ BK549 3, bc_ BK549 4, bc_ BK546 0, bc_ BK546 1, bc_ BK546 2⟩ (fun hHeld => ?_)
                 clear hK K
                 refine nm_ ?_
                 refine pI_ 41 71 HT_ impl_RowOk.m42 rfl rfl ?_
                 refine pI_ 42 72 HT_ impl_RowOk.m43 rfl rfl ?_
                 refine pI_ 43 73 HT_ impl_RowOk.m44 rfl rfl ?_
                 refine pU_ 44 74 HT_ impl_RowOk.m45 rfl rfl ?_
                 refine pU_ 45 75 HT_ impl_RowOk.m46 rfl rfl ?_
                 refine pU_ 46 76 HT_ impl_RowOk.m47 rfl rfl ?_
                 refine pU_ 47 77 HT_ impl_RowOk.m48 rfl rfl ?_
                 refine pI_ 48 78 HT_ impl_RowOk.m49 rfl rfl ?_
                 refine done_ (done_of HT_.out (by kernel_rfl)) ?_
                 try go_wp2
                 go_meet
                 case rel => exact ⟨_, (true), (qb1_), H', ⟨qb0_⟩, ⟨bq_ BK546.out⟩, ⟨bq_ BK549.out⟩, ⟨hb_ HB.out⟩⟩
               ·
                replace c48 := Bool.eq_false_iff.mpr c48
                subst c48
                have H1 : (impl_RowOk.j4 kj12 l0_2 (l0_2.length : Int) x25_3 true a0_0 a0_1 l0_2) = some r := by rw [if_neg (show ¬ (false = true) by decide)] at H; exact H
                clear H
                have H := H1
                clear H1
                have H' := Aside0.mk H
                clear H
                try go_wp2
                obtain ⟨w56, qe_⟩ : ∃ x_, x_ = (((((w18.setCell ⟨gb549, 0, none⟩ (.int .i64 ((rd_Item l0_2 x25_3).f0))).setCell ⟨gb549, 1, none⟩ (.string ((rd_Item l0_2 x25_3).f1))).setCell ⟨gb549, 2, none⟩ (.string ((rd_Item l0_2 x25_3).f2))).setCell ⟨gb549, 3, none⟩ (.int .i64 ((rd_Item l0_2 x25_3).f3))).setCell ⟨gb549, 4, none⟩ (.int .i64 ((rd_Item l0_2 x25_3).f4))) := ⟨_, rfl⟩
                rw [← qe_]
                replace BK546 := fl_ qe_ BK546
                replace BK549 : Aside0 (w56.heap[gb549]? = some (.cells #[.int .i64 ((rd_Item l0_2 x25_3).f0), .string ((rd_Item l0_2 x25_3).f1), .string ((rd_Item l0_2 x25_3).f2), .int .i64 ((rd_Item l0_2 x25_3).f3), .int .i64 ((rd_Item l0_2 x25_3).f4)] 33 (0, 0))) := ⟨qb2_⟩
                replace HB : Aside0 (Below w.heap.size w w56) := ⟨by rw [qe_]; exact hb_ HB.out⟩
                clear qe_
                replace BK546 := Aside0.mk (blk_drew BK546.out)
                replace BK549 := Aside0.mk (blk_drew BK549.out)
                replace HB := Aside0.mk (below_drew1 HB.out)
                refine start_ (n := 49) (S := fun w' => w'.cell? ⟨gb549, 0, none⟩ = some (.int .i64 ((rd_Item l0_2 x25_3).f0)) ∧ w'.cell? ⟨gb549, 1, none⟩ = some (.string ((rd_Item l0_2 x25_3).f1)) ∧ w'.cell? ⟨gb549, 2, none⟩ = some (.string ((rd_Item l0_2 x25_3).f2)) ∧ w'.cell? ⟨gb549, 3, none⟩ = some (.int .i64 ((rd_Item l0_2 x25_3).f3)) ∧ w'.cell? ⟨gb549, 4, none⟩ = some (.int .i64 ((rd_Item l0_2 x25_3).f4)) ∧ w'.cell? ⟨gb546, 0, none⟩ = some (.int .i64 a0_0) ∧ w'.cell? ⟨gb546, 1, none⟩ = some (.int .i64 a0_1) ∧ w'.cell? ⟨gb546, 2, none⟩ = some (.slice (some ad548) l0_2.length c0_2)) (ds := []) impl_RowOk.m0 (by kernel_rfl) rfl rfl ⟨bc_ BK549 0, bc_ BK549 1, bc_ BK549 2, bc_ BK549 3, bc_ BK549 4, bc_ BK546 0, bc_ BK546 1, bc_ BK546 2⟩ (fun hHeld => ?_); refine with_tabW impl_RowOk.tab6 impl_RowOk.bits6 (fun HT_ HW_ => ?_)
                generalize w56.drew = w57 at BK546 BK549 HB hHeld ⊢
                refine pI_ 0 30 HT_ impl_RowOk.m1 rfl rfl ?_
                refine pI_ 2 32 HT_ impl_RowOk.m2 rfl rfl ?_
                refine pI_ 4 34 HT_ impl_RowOk.m3 rfl rfl ?_
                refine tk_ 1 31 HT_ HW_ impl_RowOk.m4 rfl rfl hHeld ?_
                refine tk_ 3 33 HT_ HW_ impl_RowOk.m5 rfl rfl hHeld ?_
                refine tk_ 5 35 HT_ HW_ impl_RowOk.m6 rfl rfl hHeld ?_
                refine pI_ 6 36 HT_ impl_RowOk.m7 rfl rfl ?_
                refine on_ 7 37 HT_ impl_RowOk.m8 rfl rfl (fun K hK => ?_)
                refine goes_ Try.func58 (by kernel_rfl) rfl #[.int .i64 ((rd_Item l0_2 x25_3).f0), .int .i64 a0_0, .int .i64 (wrap64 (a0_1 - 1))] (by rfl) rfl rfl sm_ ?_
                with_reducible refine (impl_within.calls ((rd_Item l0_2 x25_3).f0) a0_0 (wrap64 (a0_1 - 1)) true _ A21.out).mono ?_
                rintro e w' ⟨rfl, ⟨nd, rfl⟩⟩
                refine ⟨_, rfl, ?_⟩
                refine hK.out _ _ ⟨bc_ BK549 0, bc_ BK549 1, bc_ BK549 2, bc_ BK549 3, bc_ BK549 4, bc_ BK546 0, bc_ BK546 1, bc_ BK546 2⟩ (fun hHeld => ?_)
                clear hK K
                refine nm_ ?_
                refine pI_ 8 38 HT_ impl_RowOk.m9 rfl rfl ?_
                refine pI_ 9 39 HT_ impl_RowOk.m10 rfl rfl ?_
                refine pI_ 10 40 HT_ impl_RowOk.m11 rfl rfl ?_
                refine pI_ 11 41 HT_ impl_RowOk.m12 rfl rfl ?_
                refine pI_ 12 42 HT_ impl_RowOk.m13 rfl rfl ?_
                refine pU_ 13 43 HT_ impl_RowOk.m14 rfl rfl ?_
                refine pU_ 14 44 HT_ impl_RowOk.m50 rfl rfl ?_
                refine pU_ 15 45 HT_ impl_RowOk.m51 rfl rfl ?_
                refine pU_ 16 46 HT_ impl_RowOk.m52 rfl rfl ?_
                refine pU_ 17 47 HT_ impl_RowOk.m53 rfl rfl ?_
                refine pU_ 18 48 HT_ impl_RowOk.m54 rfl rfl ?_
                refine pU_ 19 49 HT_ impl_RowOk.m55 rfl rfl ?_
                refine pU_ 20 50 HT_ impl_RowOk.m21 rfl rfl ?_
                refine pU_ 21 51 HT_ impl_RowOk.m22 rfl rfl ?_
                refine pU_ 22 52 HT_ impl_RowOk.m23 rfl rfl ?_
                refine pI_ 23 53 HT_ impl_RowOk.m24 rfl rfl ?_
                refine pI_ 24 54 HT_ impl_RowOk.m25 rfl rfl ?_
                refine pI_ 25 55 HT_ impl_RowOk.m26 rfl rfl ?_
                refine pI_ 26 56 HT_ impl_RowOk.m27 rfl rfl ?_
                refine tk_ 27 57 HT_ HW_ impl_RowOk.m28 rfl rfl hHeld ?_
                refine on_ 28 58 HT_ impl_RowOk.m29 rfl rfl (fun K hK => ?_)
                refine goes_ Try.func59 (by kernel_rfl) rfl #[.string ((rd_Item l0_2 x25_3).f1)] (by rfl) rfl rfl sm_ ?_
                with_reducible refine (impl_wordsOk.calls kj12 ((rd_Item l0_2 x25_3).f1) true _ A45.out).mono ?_
                rintro e w' ⟨rfl, ⟨nd, rfl⟩⟩
                refine ⟨_, rfl, ?_⟩
                refine hK.out _ _ ⟨bc_ BK549 0, bc_ BK549 1, bc_ BK549 2, bc_ BK549 3, bc_ BK549 4, bc_ BK546 0, bc_ BK546 1, bc_ BK546 2⟩ (fun hHeld => ?_)
                clear hK K
                refine nm_ ?_
                refine pI_ 29 59 HT_ impl_RowOk.m30 rfl rfl ?_
                refine pI_ 30 60 HT_ impl_RowOk.m31 rfl rfl ?_
                refine pI_ 31 61 HT_ impl_RowOk.m32 rfl rfl ?_
                refine pI_ 32 62 HT_ impl_RowOk.m33 rfl rfl ?_
                refine tk_ 33 63 HT_ HW_ impl_RowOk.m34 rfl rfl hHeld ?_
                refine on_ 34 64 HT_ impl_RowOk.m35 rfl rfl (fun K hK => ?_)
                refine goes_ Try.func59 (by kernel_rfl) rfl #[.string ((rd_Item l0_2 x25_3).f2)] (by rfl) rfl rfl sm_ ?_
                with_reducible refine (impl_wordsOk.calls kj12 ((rd_Item l0_2 x25_3).f2) false _ A47.out).mono ?_
                rintro e w' ⟨rfl, ⟨nd, rfl⟩⟩
                refine ⟨_, rfl, ?_⟩
                refine hK.out _ _ ⟨bc_ BK549 0, bc_ BK549 1, bc_ BK549 2, bc_ BK549 3, bc_ BK549 4, bc_ BK546 0, bc_ BK546 1, bc_ BK546 2⟩ (fun hHeld => ?_)
                clear hK K
                refine nm_ ?_
                refine pI_ 35 65 HT_ impl_RowOk.m36 rfl rfl ?_
                refine pI_ 36 66 HT_ impl_RowOk.m37 rfl rfl ?_
                refine pI_ 37 67 HT_ impl_RowOk.m38 rfl rfl ?_
                refine pU_ 38 68 HT_ impl_RowOk.m39 rfl rfl ?_
                refine pU_ 39 69 HT_ impl_RowOk.m40 rfl rfl ?_
                refine pU_ 40 70 HT_ impl_RowOk.m41 rfl rfl ?_
                refine pU_ 41 71 HT_ impl_RowOk.m42 rfl rfl ?_
                refine pI_ 42 72 HT_ impl_RowOk.m43 rfl rfl ?_
                refine pI_ 43 73 HT_ impl_RowOk.m44 rfl rfl ?_
                refine pU_ 44 74 HT_ impl_RowOk.m45 rfl rfl ?_
                refine pU_ 45 75 HT_ impl_RowOk.m46 rfl rfl ?_
                refine pU_ 46 76 HT_ impl_RowOk.m47 rfl rfl ?_
                refine pU_ 47 77 HT_ impl_RowOk.m48 rfl rfl ?_
                refine pI_ 48 78 HT_ impl_RowOk.m49 rfl rfl ?_
                refine done_ (done_of HT_.out (by kernel_rfl)) ?_
                try go_wp2
                go_meet
                case rel => exact ⟨_, (true), (qb1_), H', ⟨qb0_⟩, ⟨bq_ BK546.out⟩, ⟨bq_ BK549.out⟩, ⟨hb_ HB.out⟩⟩
              ·
               replace c46 := Bool.eq_false_iff.mpr c46
               subst c46
               have H1 : (impl_RowOk.j4 kj12 l0_2 (l0_2.length : Int) x25_3 true a0_0 a0_1 l0_2) = some r := by rw [if_neg (show ¬ (false = true) by decide)] at H; exact H
               clear H
               have H := H1
               clear H1
               have H' := Aside0.mk H
               clear H
               try go_wp2
               obtain ⟨w58, qe_⟩ : ∃ x_, x_ = (((((w18.setCell ⟨gb549, 0, none⟩ (.int .i64 ((rd_Item l0_2 x25_3).f0))).setCell ⟨gb549, 1, none⟩ (.string ((rd_Item l0_2 x25_3).f1))).setCell ⟨gb549, 2, none⟩ (.string ((rd_Item l0_2 x25_3).f2))).setCell ⟨gb549, 3, none⟩ (.int .i64 ((rd_Item l0_2 x25_3).f3))).setCell ⟨gb549, 4, none⟩ (.int .i64 ((rd_Item l0_2 x25_3).f4))) := ⟨_, rfl⟩
               rw [← qe_]
               replace BK546 := fl_ qe_ BK546
               replace BK549 : Aside0 (w58.heap[gb549]? = some (.cells #[.int .i64 ((rd_Item l0_2 x25_3).f0), .string ((rd_Item l0_2 x25_3).f1), .string ((rd_Item l0_2 x25_3).f2), .int .i64 ((rd_Item l0_2 x25_3).f3), .int .i64 ((rd_Item l0_2 x25_3).f4)] 33 (0, 0))) := ⟨qb2_⟩
               replace HB : Aside0 (Below w.heap.size w w58) := ⟨by rw [qe_]; exact hb_ HB.out⟩
               clear qe_
               replace BK546 := Aside0.mk (blk_drew BK546.out)
               replace BK549 := Aside0.mk (blk_drew BK549.out)
               replace HB := Aside0.mk (below_drew1 HB.out)
               refine start_ (n := 49) (S := fun w' => w'.cell? ⟨gb549, 0, none⟩ = some (.int .i64 ((rd_Item l0_2 x25_3).f0)) ∧ w'.cell? ⟨gb549, 1, none⟩ = some (.string ((rd_Item l0_2 x25_3).f1)) ∧ w'.cell? ⟨gb549, 2, none⟩ = some (.string ((rd_Item l0_2 x25_3).f2)) ∧ w'.cell? ⟨gb549, 3, none⟩ = some (.int .i64 ((rd_Item l0_2 x25_3).f3)) ∧ w'.cell? ⟨gb549, 4, none⟩ = some (.int .i64 ((rd_Item l0_2 x25_3).f4)) ∧ w'.cell? ⟨gb546, 0, none⟩ = some (.int .i64 a0_0) ∧ w'.cell? ⟨gb546, 1, none⟩ = some (.int .i64 a0_1) ∧ w'.cell? ⟨gb546, 2, none⟩ = some (.slice (some ad548) l0_2.length c0_2)) (ds := []) impl_RowOk.m0 (by kernel_rfl) rfl rfl ⟨bc_ BK549 0, bc_ BK549 1, bc_ BK549 2, bc_ BK549 3, bc_ BK549 4, bc_ BK546 0, bc_ BK546 1, bc_ BK546 2⟩ (fun hHeld => ?_); refine with_tabW impl_RowOk.tab6 impl_RowOk.bits6 (fun HT_ HW_ => ?_)
               generalize w58.drew = w59 at BK546 BK549 HB hHeld ⊢
               refine pI_ 0 30 HT_ impl_RowOk.m1 rfl rfl ?_
               refine pI_ 2 32 HT_ impl_RowOk.m2 rfl rfl ?_
               refine pI_ 4 34 HT_ impl_RowOk.m3 rfl rfl ?_
               refine tk_ 1 31 HT_ HW_ impl_RowOk.m4 rfl rfl hHeld ?_
               refine tk_ 3 33 HT_ HW_ impl_RowOk.m5 rfl rfl hHeld ?_
               refine tk_ 5 35 HT_ HW_ impl_RowOk.m6 rfl rfl hHeld ?_
               refine pI_ 6 36 HT_ impl_RowOk.m7 rfl rfl ?_
               refine on_ 7 37 HT_ impl_RowOk.m8 rfl rfl (fun K hK => ?_)
               refine goes_ Try.func58 (by kernel_rfl) rfl #[.int .i64 ((rd_Item l0_2 x25_3).f0), .int .i64 a0_0, .int .i64 (wrap64 (a0_1 - 1))] (by rfl) rfl rfl sm_ ?_
               with_reducible refine (impl_within.calls ((rd_Item l0_2 x25_3).f0) a0_0 (wrap64 (a0_1 - 1)) true _ A21.out).mono ?_
               rintro e w' ⟨rfl, ⟨nd, rfl⟩⟩
               refine ⟨_, rfl, ?_⟩
               refine hK.out _ _ ⟨bc_ BK549 0, bc_ BK549 1, bc_ BK549 2, bc_ BK549 3, bc_ BK549 4, bc_ BK546 0, bc_ BK546 1, bc_ BK546 2⟩ (fun hHeld => ?_)
               clear hK K
               refine nm_ ?_
               refine pI_ 8 38 HT_ impl_RowOk.m9 rfl rfl ?_
               refine pI_ 9 39 HT_ impl_RowOk.m10 rfl rfl ?_
               refine pI_ 10 40 HT_ impl_RowOk.m11 rfl rfl ?_
               refine pI_ 11 41 HT_ impl_RowOk.m12 rfl rfl ?_
               refine pI_ 12 42 HT_ impl_RowOk.m13 rfl rfl ?_
               refine pU_ 13 43 HT_ impl_RowOk.m14 rfl rfl ?_
               refine pU_ 14 44 HT_ impl_RowOk.m50 rfl rfl ?_
               refine pU_ 15 45 HT_ impl_RowOk.m51 rfl rfl ?_
               refine pU_ 16 46 HT_ impl_RowOk.m52 rfl rfl ?_
               refine pU_ 17 47 HT_ impl_RowOk.m53 rfl rfl ?_
               refine pU_ 18 48 HT_ impl_RowOk.m54 rfl rfl ?_
               refine pU_ 19 49 HT_ impl_RowOk.m55 rfl rfl ?_
               refine pU_ 20 50 HT_ impl_RowOk.m21 rfl rfl ?_
               refine pU_ 21 51 HT_ impl_RowOk.m22 rfl rfl ?_
               refine pU_ 22 52 HT_ impl_RowOk.m23 rfl rfl ?_
               refine pI_ 23 53 HT_ impl_RowOk.m24 rfl rfl ?_
               refine pI_ 24 54 HT_ impl_RowOk.m25 rfl rfl ?_
               refine pI_ 25 55 HT_ impl_RowOk.m26 rfl rfl ?_
               refine pI_ 26 56 HT_ impl_RowOk.m27 rfl rfl ?_
               refine tk_ 27 57 HT_ HW_ impl_RowOk.m28 rfl rfl hHeld ?_
               refine on_ 28 58 HT_ impl_RowOk.m29 rfl rfl (fun K hK => ?_)
               refine goes_ Try.func59 (by kernel_rfl) rfl #[.string ((rd_Item l0_2 x25_3).f1)] (by rfl) rfl rfl sm_ ?_
               with_reducible refine (impl_wordsOk.calls kj12 ((rd_Item l0_2 x25_3).f1) false _ A45.out).mono ?_
               rintro e w' ⟨rfl, ⟨nd, rfl⟩⟩
               refine ⟨_, rfl, ?_⟩
               refine hK.out _ _ ⟨bc_ BK549 0, bc_ BK549 1, bc_ BK549 2, bc_ BK549 3, bc_ BK549 4, bc_ BK546 0, bc_ BK546 1, bc_ BK546 2⟩ (fun hHeld => ?_)
               clear hK K
               refine nm_ ?_
               refine pI_ 29 59 HT_ impl_RowOk.m30 rfl rfl ?_
               refine pI_ 30 60 HT_ impl_RowOk.m31 rfl rfl ?_
               refine pI_ 31 61 HT_ impl_RowOk.m32 rfl rfl ?_
               refine pU_ 32 62 HT_ impl_RowOk.m33 rfl rfl ?_
               refine pU_ 33 63 HT_ impl_RowOk.m34 rfl rfl ?_
               refine pU_ 34 64 HT_ impl_RowOk.m35 rfl rfl ?_
               refine pU_ 35 65 HT_ impl_RowOk.m36 rfl rfl ?_
               refine pI_ 36 66 HT_ impl_RowOk.m37 rfl rfl ?_
               refine pI_ 37 67 HT_ impl_RowOk.m38 rfl rfl ?_
               refine pU_ 38 68 HT_ impl_RowOk.m39 rfl rfl ?_
               refine pU_ 39 69 HT_ impl_RowOk.m40 rfl rfl ?_
               refine pU_ 40 70 HT_ impl_RowOk.m41 rfl rfl ?_
               refine pU_ 41 71 HT_ impl_RowOk.m42 rfl rfl ?_
               refine pI_ 42 72 HT_ impl_RowOk.m43 rfl rfl ?_
               refine pI_ 43 73 HT_ impl_RowOk.m44 rfl rfl ?_
               refine pU_ 44 74 HT_ impl_RowOk.m45 rfl rfl ?_
               refine pU_ 45 75 HT_ impl_RowOk.m46 rfl rfl ?_
               refine pU_ 46 76 HT_ impl_RowOk.m47 rfl rfl ?_
               refine pU_ 47 77 HT_ impl_RowOk.m48 rfl rfl ?_
               refine pI_ 48 78 HT_ impl_RowOk.m49 rfl rfl ?_
               refine done_ (done_of HT_.out (by kernel_rfl)) ?_
               try go_wp2
               go_meet
               case rel => exact ⟨_, (true), (qb1_), H', ⟨qb0_⟩, ⟨bq_ BK546.out⟩, ⟨bq_ BK549.out⟩, ⟨hb_ HB.out⟩⟩
            ·
             replace c22 := Bool.eq_false_iff.mpr c22
             subst c22
             have H1 : (impl_RowOk.j4 kj12 l0_2 (l0_2.length : Int) x25_3 true a0_0 a0_1 l0_2) = some r := by rw [if_neg (show ¬ (false = true) by decide)] at H; exact H
             clear H
             have H := H1
             clear H1
             have H' := Aside0.mk H
             clear H
             try go_wp2
             obtain ⟨w60, qe_⟩ : ∃ x_, x_ = (((((w18.setCell ⟨gb549, 0, none⟩ (.int .i64 ((rd_Item l0_2 x25_3).f0))).setCell ⟨gb549, 1, none⟩ (.string ((rd_Item l0_2 x25_3).f1))).setCell ⟨gb549, 2, none⟩ (.string ((rd_Item l0_2 x25_3).f2))).setCell ⟨gb549, 3, none⟩ (.int .i64 ((rd_Item l0_2 x25_3).f3))).setCell ⟨gb549, 4, none⟩ (.int .i64 ((rd_Item l0_2 x25_3).f4))) := ⟨_, rfl⟩
             rw [← qe_]
             replace BK546 := fl_ qe_ BK546
             replace BK549 : Aside0 (w60.heap[gb549]? = some (.cells #[.int .i64 ((rd_Item l0_2 x25_3).f0), .string ((rd_Item l0_2 x25_3).f1), .string ((rd_Item l0_2 x25_3).f2), .int .i64 ((rd_Item l0_2 x25_3).f3), .int .i64 ((rd_Item l0_2 x25_3).f4)] 33 (0, 0))) := ⟨qb2_⟩
             replace HB : Aside0 (Below w.heap.size w w60) := ⟨by rw [qe_]; exact hb_ HB.out⟩
             clear qe_
             replace BK546 := Aside0.mk (blk_drew BK546.out)
             replace BK549 := Aside0.mk (blk_drew BK549.out)
             replace HB := Aside0.mk (below_drew1 HB.out)
             refine start_ (n := 49) (S := fun w' => w'.cell? ⟨gb549, 0, none⟩ = some (.int .i64 ((rd_Item l0_2 x25_3).f0)) ∧ w'.cell? ⟨gb549, 1, none⟩ = some (.string ((rd_Item l0_2 x25_3).f1)) ∧ w'.cell? ⟨gb549, 2, none⟩ = some (.string ((rd_Item l0_2 x25_3).f2)) ∧ w'.cell? ⟨gb549, 3, none⟩ = some (.int .i64 ((rd_Item l0_2 x25_3).f3)) ∧ w'.cell? ⟨gb549, 4, none⟩ = some (.int .i64 ((rd_Item l0_2 x25_3).f4)) ∧ w'.cell? ⟨gb546, 0, none⟩ = some (.int .i64 a0_0) ∧ w'.cell? ⟨gb546, 1, none⟩ = some (.int .i64 a0_1) ∧ w'.cell? ⟨gb546, 2, none⟩ = some (.slice (some ad548) l0_2.length c0_2)) (ds := []) impl_RowOk.m0 (by kernel_rfl) rfl rfl ⟨bc_ BK549 0, bc_ BK549 1, bc_ BK549 2, bc_ BK549 3, bc_ BK549 4, bc_ BK546 0, bc_ BK546 1, bc_ BK546 2⟩ (fun hHeld => ?_); refine with_tabW impl_RowOk.tab6 impl_RowOk.bits6 (fun HT_ HW_ => ?_)
             generalize w60.drew = w61 at BK546 BK549 HB hHeld ⊢
             refine pI_ 0 30 HT_ impl_RowOk.m1 rfl rfl ?_
             refine pI_ 2 32 HT_ impl_RowOk.m2 rfl rfl ?_
             refine pI_ 4 34 HT_ impl_RowOk.m3 rfl rfl ?_
             refine tk_ 1 31 HT_ HW_ impl_RowOk.m4 rfl rfl hHeld ?_
             refine tk_ 3 33 HT_ HW_ impl_RowOk.m5 rfl rfl hHeld ?_
             refine tk_ 5 35 HT_ HW_ impl_RowOk.m6 rfl rfl hHeld ?_
             refine pI_ 6 36 HT_ impl_RowOk.m7 rfl rfl ?_
             refine on_ 7 37 HT_ impl_RowOk.m8 rfl rfl (fun K hK => ?_)
             refine goes_ Try.func58 (by kernel_rfl) rfl #[.int .i64 ((rd_Item l0_2 x25_3).f0), .int .i64 a0_0, .int .i64 (wrap64 (a0_1 - 1))] (by rfl) rfl rfl sm_ ?_
             with_reducible refine (impl_within.calls ((rd_Item l0_2 x25_3).f0) a0_0 (wrap64 (a0_1 - 1)) false _ A21.out).mono ?_
             rintro e w' ⟨rfl, ⟨nd, rfl⟩⟩
             refine ⟨_, rfl, ?_⟩
             refine hK.out _ _ ⟨bc_ BK549 0, bc_ BK549 1, bc_ BK549 2, bc_ BK549 3, bc_ BK549 4, bc_ BK546 0, bc_ BK546 1, bc_ BK546 2⟩ (fun hHeld => ?_)
             clear hK K
             refine nm_ ?_
             refine pI_ 8 38 HT_ impl_RowOk.m9 rfl rfl ?_
             refine pI_ 9 39 HT_ impl_RowOk.m10 rfl rfl ?_
             refine pU_ 10 40 HT_ impl_RowOk.m11 rfl rfl ?_
             refine pU_ 11 41 HT_ impl_RowOk.m12 rfl rfl ?_
             refine pU_ 12 42 HT_ impl_RowOk.m13 rfl rfl ?_
             refine pU_ 13 43 HT_ impl_RowOk.m14 rfl rfl ?_
             refine pU_ 14 44 HT_ impl_RowOk.m50 rfl rfl ?_
             refine pU_ 15 45 HT_ impl_RowOk.m51 rfl rfl ?_
             refine pU_ 16 46 HT_ impl_RowOk.m52 rfl rfl ?_
             refine pU_ 17 47 HT_ impl_RowOk.m53 rfl rfl ?_
             refine pU_ 18 48 HT_ impl_RowOk.m54 rfl rfl ?_
             refine pU_ 19 49 HT_ impl_RowOk.m55 rfl rfl ?_
             refine pU_ 20 50 HT_ impl_RowOk.m21 rfl rfl ?_
             refine pU_ 21 51 HT_ impl_RowOk.m22 rfl rfl ?_
             refine pU_ 22 52 HT_ impl_RowOk.m23 rfl rfl ?_
             refine pU_ 23 53 HT_ impl_RowOk.m24 rfl rfl ?_
             refine pI_ 24 54 HT_ impl_RowOk.m25 rfl rfl ?_
             refine pI_ 25 55 HT_ impl_RowOk.m26 rfl rfl ?_
             refine pU_ 26 56 HT_ impl_RowOk.m27 rfl rfl ?_
             refine pU_ 27 57 HT_ impl_RowOk.m28 rfl rfl ?_
             refine pU_ 28 58 HT_ impl_RowOk.m29 rfl rfl ?_
             refine pU_ 29 59 HT_ impl_RowOk.m30 rfl rfl ?_
             refine pI_ 30 60 HT_ impl_RowOk.m31 rfl rfl ?_
             refine pI_ 31 61 HT_ impl_RowOk.m32 rfl rfl ?_
             refine pU_ 32 62 HT_ impl_RowOk.m33 rfl rfl ?_
             refine pU_ 33 63 HT_ impl_RowOk.m34 rfl rfl ?_
             refine pU_ 34 64 HT_ impl_RowOk.m35 rfl rfl ?_
             refine pU_ 35 65 HT_ impl_RowOk.m36 rfl rfl ?_
             refine pI_ 36 66 HT_ impl_RowOk.m37 rfl rfl ?_
             refine pI_ 37 67 HT_ impl_RowOk.m38 rfl rfl ?_
             refine pU_ 38 68 HT_ impl_RowOk.m39 rfl rfl ?_
             refine pU_ 39 69 HT_ impl_RowOk.m40 rfl rfl ?_
             refine pU_ 40 70 HT_ impl_RowOk.m41 rfl rfl ?_
             refine pU_ 41 71 HT_ impl_RowOk.m42 rfl rfl ?_
             refine pI_ 42 72 HT_ impl_RowOk.m43 rfl rfl ?_
             refine pI_ 43 73 HT_ impl_RowOk.m44 rfl rfl ?_
             refine pU_ 44 74 HT_ impl_RowOk.m45 rfl rfl ?_
             refine pU_ 45 75 HT_ impl_RowOk.m46 rfl rfl ?_
             refine pU_ 46 76 HT_ impl_RowOk.m47 rfl rfl ?_
             refine pU_ 47 77 HT_ impl_RowOk.m48 rfl rfl ?_
             refine pI_ 48 78 HT_ impl_RowOk.m49 rfl rfl ?_
             refine done_ (done_of HT_.out (by kernel_rfl)) ?_
             try go_wp2
             go_meet
             case rel => exact ⟨_, (true), (qb1_), H', ⟨qb0_⟩, ⟨bq_ BK546.out⟩, ⟨bq_ BK549.out⟩, ⟨hb_ HB.out⟩⟩
           case rest =>
            clear HC17
            obtain ⟨kq, x78_16, rfl, HA, HJ16, BK546, BK549, HB⟩ := hcut
            cases kq with
            | zero => exact absurd HA.out (by simp [impl_RowOk.j4])
            | succ kj16 =>
             have H := HA.out
             clear HA
             simp only [impl_RowOk.j4] at H
             by_cases c62 : x78_16 = true
             ·
              subst c62
              have H1 : (some false) = some r := by rw [if_pos rfl] at H; exact H
              clear H
              have H := H1
              clear H1
              obtain rfl := Option.some.inj H
              go_wp2
              go_ret
              exact ⟨er_, hb_ HB.out⟩
             ·
              replace c62 := Bool.eq_false_iff.mpr c62
              subst c62
              have H1 : (impl_RowOk.l0 kj16 l0_2 (l0_2.length : Int) (wrap64 (x25_3 + 1)) a0_0 a0_1 l0_2) = some r := by rw [if_neg (show ¬ (false = true) by decide)] at H; exact H
              clear H
              have H := H1
              clear H1
              have H' := Aside0.mk H
              clear H
              go_wp2
              go_roundg kj16
              case measure => have := HJ1.out; have := HJ9.out; have := HK3.out; have := HJ12.out; have := HJ16.out; omega
              case rel => exact ⟨(wrap64 (x25_3 + 1)), (qb1_), H', ⟨by have := HJ1.out; have := HJ9.out; have := HK3.out; have := HJ12.out; have := HJ16.out; omega⟩, ⟨bq_ BK546.out⟩, ⟨hb_ HB.out⟩⟩
          ·
           rw [if_neg c16] at H
           exact absurd H (by simp)
         ·
          rw [if_neg c15] at H
          exact absurd H (by simp)
end Go.Proofs.Ythmjhhkheohgfaa.Q
