/- Made by a program of ours out of the print of the loaded functions: for each of some functions a plain function, and the walk that shows that a call comes to what it says. No condition but those of each theorem. -/
import Derived.Test.YtiknkolclcdajaaZFnRows0
import Derived.Test.YtiknkolclcdajaaZFnRowsa
import Derived.Test.YtiknkolclcdajaaZFnRowsc
import Derived.Test.YtiknkolclcdajaaZFnRowsd
import Derived.Test.YtiknkolclcdajaaZFnRowsf
import Derived.Test.YtiknkolclcdajaaZFnRowsg
namespace Go.Proofs.Ytiknkolclcdajaa.Q
open Go.RowKit Go.Proofs.YtiknkolclcdajaaW.PrintWords Go.Proofs.YtiknkolclcdajaaW.PrintLast Go.Proofs.YtiknkolclcdajaaW.PrintMore
attribute [local go_sem] max2_int min2_int max_two min_two max_three min_three max_four min_four   -- for this text's walks alone
set_option linter.unusedVariables false
set_option linter.unusedSimpArgs false
theorem qh0_ {P : Prop} (h : P := by rw [qe_]; exact by (with_reducible repeat (first | apply Kd.R_alloc | apply Kd.R_drewN | apply Kd.R_drew)); exact Kd.R_mono (Kd.R_far (p := ⟨gb2352, 4, none⟩) (Kd.R_far (p := ⟨gb2352, 3, none⟩) (Kd.R_far (p := ⟨gb2352, 2, none⟩) (Kd.R_far (p := ⟨gb2352, 1, none⟩) (Kd.R_far (p := ⟨gb2352, 0, none⟩) (Kd.R_mono HO2336.out (fun k_ hk => (⟨hk, hk.2⟩ : _ ∧ k_ ≠ gb2352))) (fun _ hk => hk.2) (.int .i64 t2346)) (fun _ hk => hk.2) (.string t2347)) (fun _ hk => hk.2) (.string t2348)) (fun _ hk => hk.2) (.int .i64 t2349)) (fun _ hk => hk.2) (.int .i64 t2350)) (fun _ hk => ⟨hk.1.1.1.1.1.1.1.1.2, ⟨hk.1.1.1.1.1.1.1.2, ⟨hk.1.1.1.1.1.1.2, ⟨hk.1.1.1.1.1.2, ⟨hk.1.1.1.1.2, ⟨hk.1.1.1.2, ⟨hk.1.1.2, hk.1.2⟩⟩⟩⟩⟩⟩⟩)) : P := h
theorem qh1_ {P : Prop} (h : P := by rw [qe_]; exact by (with_reducible repeat (first | apply Kd.R_alloc | apply Kd.R_drewN | apply Kd.R_drew)); exact Kd.R_mono (Kd.R_far (p := ⟨gb2352, 4, none⟩) (Kd.R_far (p := ⟨gb2352, 3, none⟩) (Kd.R_far (p := ⟨gb2352, 2, none⟩) (Kd.R_far (p := ⟨gb2352, 1, none⟩) (Kd.R_far (p := ⟨gb2352, 0, none⟩) (Kd.R_mono HO2315.out (fun k_ hk => (⟨hk, hk.2⟩ : _ ∧ k_ ≠ gb2352))) (fun _ hk => hk.2) (.int .i64 t2346)) (fun _ hk => hk.2) (.string t2347)) (fun _ hk => hk.2) (.string t2348)) (fun _ hk => hk.2) (.int .i64 t2349)) (fun _ hk => hk.2) (.int .i64 t2350)) (fun _ hk => ⟨hk.1.1.1.1.1.1.1.1.2, ⟨hk.1.1.1.1.1.1.1.2, ⟨hk.1.1.1.1.1.1.2, ⟨hk.1.1.1.2, ⟨hk.1.1.1.1.1.2, ⟨hk.1.1.1.1.2, ⟨hk.1.1.2, hk.1.2⟩⟩⟩⟩⟩⟩⟩)) : P := h
theorem qh2_ {P : Prop} (h : P := by rw [qe_]; exact by (with_reducible repeat (first | apply Kd.R_alloc | apply Kd.R_drewN | apply Kd.R_drew)); exact Kd.R_mono (Kd.R_far (p := ⟨gb2352, 4, none⟩) (Kd.R_far (p := ⟨gb2352, 3, none⟩) (Kd.R_far (p := ⟨gb2352, 2, none⟩) (Kd.R_far (p := ⟨gb2352, 1, none⟩) (Kd.R_far (p := ⟨gb2352, 0, none⟩) (Kd.R_mono HO2307.out (fun k_ hk => (⟨hk, hk.2⟩ : _ ∧ k_ ≠ gb2352))) (fun _ hk => hk.2) (.int .i64 t2346)) (fun _ hk => hk.2) (.string t2347)) (fun _ hk => hk.2) (.string t2348)) (fun _ hk => hk.2) (.int .i64 t2349)) (fun _ hk => hk.2) (.int .i64 t2350)) (fun _ hk => ⟨hk.1.1.1.1.1.1.1.1.2, ⟨hk.1.1.1.1.1.1.1.2, ⟨hk.1.1.1.1.1.1.2, ⟨hk.1.1.1.2, ⟨hk.1.1.1.1.1.2, ⟨hk.1.1.1.1.2, ⟨hk.1.1.2, hk.1.2⟩⟩⟩⟩⟩⟩⟩)) : P := h
theorem qh3_ {P : Prop} (h : P := by rw [qe_]; exact by (with_reducible repeat (first | apply Kd.R_alloc | apply Kd.R_drewN | apply Kd.R_drew)); exact Kd.R_mono (Kd.R_far (p := ⟨gb2352, 4, none⟩) (Kd.R_far (p := ⟨gb2352, 3, none⟩) (Kd.R_far (p := ⟨gb2352, 2, none⟩) (Kd.R_far (p := ⟨gb2352, 1, none⟩) (Kd.R_far (p := ⟨gb2352, 0, none⟩) (Kd.R_mono HO2299.out (fun k_ hk => (⟨hk, hk.2⟩ : _ ∧ k_ ≠ gb2352))) (fun _ hk => hk.2) (.int .i64 t2346)) (fun _ hk => hk.2) (.string t2347)) (fun _ hk => hk.2) (.string t2348)) (fun _ hk => hk.2) (.int .i64 t2349)) (fun _ hk => hk.2) (.int .i64 t2350)) (fun _ hk => ⟨hk.1.1.1.1.1.1.1.1.2, ⟨hk.1.1.1.1.1.1.1.2, ⟨hk.1.1.1.1.1.1.2, ⟨hk.1.1.1.2, ⟨hk.1.1.1.1.1.2, ⟨hk.1.1.1.1.2, ⟨hk.1.1.2, hk.1.2⟩⟩⟩⟩⟩⟩⟩)) : P := h
theorem qh4_ {P : Prop} (h : P := by rw [qe_]; exact by (with_reducible repeat (first | apply Kd.R_alloc | apply Kd.R_drewN | apply Kd.R_drew)); exact Kd.R_mono (Kd.R_far (p := ⟨gb2352, 4, none⟩) (Kd.R_far (p := ⟨gb2352, 3, none⟩) (Kd.R_far (p := ⟨gb2352, 2, none⟩) (Kd.R_far (p := ⟨gb2352, 1, none⟩) (Kd.R_far (p := ⟨gb2352, 0, none⟩) (Kd.R_mono HO2289.out (fun k_ hk => (⟨hk, hk.2⟩ : _ ∧ k_ ≠ gb2352))) (fun _ hk => hk.2) (.int .i64 t2346)) (fun _ hk => hk.2) (.string t2347)) (fun _ hk => hk.2) (.string t2348)) (fun _ hk => hk.2) (.int .i64 t2349)) (fun _ hk => hk.2) (.int .i64 t2350)) (fun _ hk => ⟨hk.1.1.1.1.1.1.1.1.2, ⟨hk.1.1.1.1.1.1.1.2, ⟨hk.1.1.1.1.1.1.2, ⟨hk.1.1.1.2, ⟨hk.1.1.1.1.1.2, ⟨hk.1.1.1.1.2, ⟨hk.1.1.2, hk.1.2⟩⟩⟩⟩⟩⟩⟩)) : P := h
theorem qh5_ {P : Prop} (h : P := by (with_reducible repeat (first | apply Kd.R_alloc | apply Kd.R_drewN | apply Kd.R_drew)); exact Kd.R_mono (Kd.R_far (p := ⟨gb2363, 4, none⟩) (Kd.R_far (p := ⟨gb2363, 3, none⟩) (Kd.R_far (p := ⟨gb2363, 2, none⟩) (Kd.R_far (p := ⟨gb2363, 1, none⟩) (Kd.R_far (p := ⟨gb2363, 0, none⟩) (Kd.R_mono HO_2339002.out (fun k_ hk => (⟨hk, hk.2⟩ : _ ∧ k_ ≠ gb2363))) (fun _ hk => hk.2) (.int .i64 t2357)) (fun _ hk => hk.2) (.string t2358)) (fun _ hk => hk.2) (.string t2359)) (fun _ hk => hk.2) (.int .i64 t2360)) (fun _ hk => hk.2) (.int .i64 t2361)) (fun _ hk => ⟨hk.1.1.1, ⟨hk.1.1.2.1, ⟨hk.1.1.2.2.1, ⟨hk.1.1.2.2.2.1, ⟨hk.1.1.2.2.2.2.1, ⟨hk.1.1.2.2.2.2.2.1, ⟨hk.1.1.2.2.2.2.2.2.1, ⟨hk.1.1.2.2.2.2.2.2.2, hk.1.2⟩⟩⟩⟩⟩⟩⟩⟩)) : P := h
theorem qh6_ {P : Prop} (h : P := by (with_reducible repeat (first | apply Kd.R_alloc | apply Kd.R_drewN | apply Kd.R_drew)); exact Kd.R_mono (Kd.R_far (p := ⟨gb2363, 4, none⟩) (Kd.R_far (p := ⟨gb2363, 3, none⟩) (Kd.R_far (p := ⟨gb2363, 2, none⟩) (Kd.R_far (p := ⟨gb2363, 1, none⟩) (Kd.R_far (p := ⟨gb2363, 0, none⟩) (Kd.R_mono HO_2318002.out (fun k_ hk => (⟨hk, hk.2⟩ : _ ∧ k_ ≠ gb2363))) (fun _ hk => hk.2) (.int .i64 t2357)) (fun _ hk => hk.2) (.string t2358)) (fun _ hk => hk.2) (.string t2359)) (fun _ hk => hk.2) (.int .i64 t2360)) (fun _ hk => hk.2) (.int .i64 t2361)) (fun _ hk => ⟨hk.1.1.1, ⟨hk.1.1.2.1, ⟨hk.1.1.2.2.1, ⟨hk.1.1.2.2.2.1, ⟨hk.1.1.2.2.2.2.1, ⟨hk.1.1.2.2.2.2.2.1, ⟨hk.1.1.2.2.2.2.2.2.1, ⟨hk.1.1.2.2.2.2.2.2.2, hk.1.2⟩⟩⟩⟩⟩⟩⟩⟩)) : P := h
theorem qh7_ {P : Prop} (h : P := by (with_reducible repeat (first | apply Kd.R_alloc | apply Kd.R_drewN | apply Kd.R_drew)); exact Kd.R_mono (Kd.R_far (p := ⟨gb2363, 4, none⟩) (Kd.R_far (p := ⟨gb2363, 3, none⟩) (Kd.R_far (p := ⟨gb2363, 2, none⟩) (Kd.R_far (p := ⟨gb2363, 1, none⟩) (Kd.R_far (p := ⟨gb2363, 0, none⟩) (Kd.R_mono HO_2311002.out (fun k_ hk => (⟨hk, hk.2⟩ : _ ∧ k_ ≠ gb2363))) (fun _ hk => hk.2) (.int .i64 t2357)) (fun _ hk => hk.2) (.string t2358)) (fun _ hk => hk.2) (.string t2359)) (fun _ hk => hk.2) (.int .i64 t2360)) (fun _ hk => hk.2) (.int .i64 t2361)) (fun _ hk => ⟨hk.1.1.1, ⟨hk.1.1.2.1, ⟨hk.1.1.2.2.1, ⟨hk.1.1.2.2.2.1, ⟨hk.1.1.2.2.2.2.1, ⟨hk.1.1.2.2.2.2.2.1, ⟨hk.1.1.2.2.2.2.2.2.1, ⟨hk.1.1.2.2.2.2.2.2.2, hk.1.2⟩⟩⟩⟩⟩⟩⟩⟩)) : P := h
theorem qh8_ {P : Prop} (h : P := by (with_reducible repeat (first | apply Kd.R_alloc | apply Kd.R_drewN | apply Kd.R_drew)); exact Kd.R_mono (Kd.R_far (p := ⟨gb2363, 4, none⟩) (Kd.R_far (p := ⟨gb2363, 3, none⟩) (Kd.R_far (p := ⟨gb2363, 2, none⟩) (Kd.R_far (p := ⟨gb2363, 1, none⟩) (Kd.R_far (p := ⟨gb2363, 0, none⟩) (Kd.R_mono HO_2303002.out (fun k_ hk => (⟨hk, hk.2⟩ : _ ∧ k_ ≠ gb2363))) (fun _ hk => hk.2) (.int .i64 t2357)) (fun _ hk => hk.2) (.string t2358)) (fun _ hk => hk.2) (.string t2359)) (fun _ hk => hk.2) (.int .i64 t2360)) (fun _ hk => hk.2) (.int .i64 t2361)) (fun _ hk => ⟨hk.1.1.1, ⟨hk.1.1.2.1, ⟨hk.1.1.2.2.1, ⟨hk.1.1.2.2.2.1, ⟨hk.1.1.2.2.2.2.1, ⟨hk.1.1.2.2.2.2.2.1, ⟨hk.1.1.2.2.2.2.2.2.1, ⟨hk.1.1.2.2.2.2.2.2.2, hk.1.2⟩⟩⟩⟩⟩⟩⟩⟩)) : P := h
theorem qh9_ {P : Prop} (h : P := by (with_reducible repeat (first | apply Kd.R_alloc | apply Kd.R_drewN | apply Kd.R_drew)); exact Kd.R_mono (Kd.R_far (p := ⟨gb2363, 4, none⟩) (Kd.R_far (p := ⟨gb2363, 3, none⟩) (Kd.R_far (p := ⟨gb2363, 2, none⟩) (Kd.R_far (p := ⟨gb2363, 1, none⟩) (Kd.R_far (p := ⟨gb2363, 0, none⟩) (Kd.R_mono HO_2295002.out (fun k_ hk => (⟨hk, hk.2⟩ : _ ∧ k_ ≠ gb2363))) (fun _ hk => hk.2) (.int .i64 t2357)) (fun _ hk => hk.2) (.string t2358)) (fun _ hk => hk.2) (.string t2359)) (fun _ hk => hk.2) (.int .i64 t2360)) (fun _ hk => hk.2) (.int .i64 t2361)) (fun _ hk => ⟨hk.1.1.1, ⟨hk.1.1.2.1, ⟨hk.1.1.2.2.1, ⟨hk.1.1.2.2.2.1, ⟨hk.1.1.2.2.2.2.1, ⟨hk.1.1.2.2.2.2.2.1, ⟨hk.1.1.2.2.2.2.2.2.1, ⟨hk.1.1.2.2.2.2.2.2.2, hk.1.2⟩⟩⟩⟩⟩⟩⟩⟩)) : P := h
theorem qh10_ {P : Prop} (h : P := by (with_reducible repeat (first | apply Kd.R_alloc | apply Kd.R_drewN | apply Kd.R_drew)); exact Kd.R_mono (Kd.R_far (p := ⟨gb2377, 4, none⟩) (Kd.R_far (p := ⟨gb2377, 3, none⟩) (Kd.R_far (p := ⟨gb2377, 2, none⟩) (Kd.R_far (p := ⟨gb2377, 1, none⟩) (Kd.R_far (p := ⟨gb2377, 0, none⟩) (Kd.R_mono HO_2339002.out (fun k_ hk => (⟨hk, hk.2⟩ : _ ∧ k_ ≠ gb2377))) (fun _ hk => hk.2) (.int .i64 t2371)) (fun _ hk => hk.2) (.string t2372)) (fun _ hk => hk.2) (.string t2373)) (fun _ hk => hk.2) (.int .i64 t2374)) (fun _ hk => hk.2) (.int .i64 t2375)) (fun _ hk => ⟨hk.1.1.1.1, ⟨hk.1.1.1.2.1, ⟨hk.1.1.1.2.2.1, ⟨hk.1.1.1.2.2.2.1, ⟨hk.1.1.1.2.2.2.2.1, ⟨hk.1.1.1.2.2.2.2.2.1, ⟨hk.1.1.1.2.2.2.2.2.2.1, ⟨hk.1.1.1.2.2.2.2.2.2.2.1, ⟨hk.1.1.1.2.2.2.2.2.2.2.2, ⟨hk.1.1.2, hk.1.2⟩⟩⟩⟩⟩⟩⟩⟩⟩⟩)) : P := h
theorem qh11_ {P : Prop} (h : P := by (with_reducible repeat (first | apply Kd.R_alloc | apply Kd.R_drewN | apply Kd.R_drew)); exact Kd.R_mono (Kd.R_far (p := ⟨gb2377, 4, none⟩) (Kd.R_far (p := ⟨gb2377, 3, none⟩) (Kd.R_far (p := ⟨gb2377, 2, none⟩) (Kd.R_far (p := ⟨gb2377, 1, none⟩) (Kd.R_far (p := ⟨gb2377, 0, none⟩) (Kd.R_mono HO_2318002.out (fun k_ hk => (⟨hk, hk.2⟩ : _ ∧ k_ ≠ gb2377))) (fun _ hk => hk.2) (.int .i64 t2371)) (fun _ hk => hk.2) (.string t2372)) (fun _ hk => hk.2) (.string t2373)) (fun _ hk => hk.2) (.int .i64 t2374)) (fun _ hk => hk.2) (.int .i64 t2375)) (fun _ hk => ⟨hk.1.1.1.1, ⟨hk.1.1.1.2.1, ⟨hk.1.1.1.2.2.1, ⟨hk.1.1.1.2.2.2.1, ⟨hk.1.1.1.2.2.2.2.1, ⟨hk.1.1.1.2.2.2.2.2.1, ⟨hk.1.1.1.2.2.2.2.2.2.1, ⟨hk.1.1.1.2.2.2.2.2.2.2.1, ⟨hk.1.1.1.2.2.2.2.2.2.2.2, ⟨hk.1.1.2, hk.1.2⟩⟩⟩⟩⟩⟩⟩⟩⟩⟩)) : P := h
theorem qh12_ {P : Prop} (h : P := by (with_reducible repeat (first | apply Kd.R_alloc | apply Kd.R_drewN | apply Kd.R_drew)); exact Kd.R_mono (Kd.R_far (p := ⟨gb2377, 4, none⟩) (Kd.R_far (p := ⟨gb2377, 3, none⟩) (Kd.R_far (p := ⟨gb2377, 2, none⟩) (Kd.R_far (p := ⟨gb2377, 1, none⟩) (Kd.R_far (p := ⟨gb2377, 0, none⟩) (Kd.R_mono HO_2311002.out (fun k_ hk => (⟨hk, hk.2⟩ : _ ∧ k_ ≠ gb2377))) (fun _ hk => hk.2) (.int .i64 t2371)) (fun _ hk => hk.2) (.string t2372)) (fun _ hk => hk.2) (.string t2373)) (fun _ hk => hk.2) (.int .i64 t2374)) (fun _ hk => hk.2) (.int .i64 t2375)) (fun _ hk => ⟨hk.1.1.1.1, ⟨hk.1.1.1.2.1, ⟨hk.1.1.1.2.2.1, ⟨hk.1.1.1.2.2.2.1, ⟨hk.1.1.1.2.2.2.2.1, ⟨hk.1.1.1.2.2.2.2.2.1, ⟨hk.1.1.1.2.2.2.2.2.2.1, ⟨hk.1.1.1.2.2.2.2.2.2.2.1, ⟨hk.1.1.1.2.2.2.2.2.2.2.2, ⟨hk.1.1.2, hk.1.2⟩⟩⟩⟩⟩⟩⟩⟩⟩⟩)) : P := h
theorem qh13_ {P : Prop} (h : P := by (with_reducible repeat (first | apply Kd.R_alloc | apply Kd.R_drewN | apply Kd.R_drew)); exact Kd.R_mono (Kd.R_far (p := ⟨gb2377, 4, none⟩) (Kd.R_far (p := ⟨gb2377, 3, none⟩) (Kd.R_far (p := ⟨gb2377, 2, none⟩) (Kd.R_far (p := ⟨gb2377, 1, none⟩) (Kd.R_far (p := ⟨gb2377, 0, none⟩) (Kd.R_mono HO_2303002.out (fun k_ hk => (⟨hk, hk.2⟩ : _ ∧ k_ ≠ gb2377))) (fun _ hk => hk.2) (.int .i64 t2371)) (fun _ hk => hk.2) (.string t2372)) (fun _ hk => hk.2) (.string t2373)) (fun _ hk => hk.2) (.int .i64 t2374)) (fun _ hk => hk.2) (.int .i64 t2375)) (fun _ hk => ⟨hk.1.1.1.1, ⟨hk.1.1.1.2.1, ⟨hk.1.1.1.2.2.1, ⟨hk.1.1.1.2.2.2.1, ⟨hk.1.1.1.2.2.2.2.1, ⟨hk.1.1.1.2.2.2.2.2.1, ⟨hk.1.1.1.2.2.2.2.2.2.1, ⟨hk.1.1.1.2.2.2.2.2.2.2.1, ⟨hk.1.1.1.2.2.2.2.2.2.2.2, ⟨hk.1.1.2, hk.1.2⟩⟩⟩⟩⟩⟩⟩⟩⟩⟩)) : P := h
theorem qh14_ {P : Prop} (h : P := by (with_reducible repeat (first | apply Kd.R_alloc | apply Kd.R_drewN | apply Kd.R_drew)); exact Kd.R_mono (Kd.R_far (p := ⟨gb2377, 4, none⟩) (Kd.R_far (p := ⟨gb2377, 3, none⟩) (Kd.R_far (p := ⟨gb2377, 2, none⟩) (Kd.R_far (p := ⟨gb2377, 1, none⟩) (Kd.R_far (p := ⟨gb2377, 0, none⟩) (Kd.R_mono HO_2295002.out (fun k_ hk => (⟨hk, hk.2⟩ : _ ∧ k_ ≠ gb2377))) (fun _ hk => hk.2) (.int .i64 t2371)) (fun _ hk => hk.2) (.string t2372)) (fun _ hk => hk.2) (.string t2373)) (fun _ hk => hk.2) (.int .i64 t2374)) (fun _ hk => hk.2) (.int .i64 t2375)) (fun _ hk => ⟨hk.1.1.1.1, ⟨hk.1.1.1.2.1, ⟨hk.1.1.1.2.2.1, ⟨hk.1.1.1.2.2.2.1, ⟨hk.1.1.1.2.2.2.2.1, ⟨hk.1.1.1.2.2.2.2.2.1, ⟨hk.1.1.1.2.2.2.2.2.2.1, ⟨hk.1.1.1.2.2.2.2.2.2.2.1, ⟨hk.1.1.1.2.2.2.2.2.2.2.2, ⟨hk.1.1.2, hk.1.2⟩⟩⟩⟩⟩⟩⟩⟩⟩⟩)) : P := h
theorem qh15_ {P : Prop} (h : P := by first | rfl | (simp; done) | (simp [*]; done)) : P := h
theorem qh16_ {P : Prop} (h : P := by (with_reducible repeat (first | apply Kd.R_alloc | apply Kd.R_drewN | apply Kd.R_drew)); exact (Kd.R_mono (Kd.R_far (p := ⟨gb2370, 4, none⟩) (Kd.R_far (p := ⟨gb2370, 3, none⟩) (Kd.R_far (p := ⟨gb2370, 2, none⟩) (Kd.R_far (p := ⟨gb2370, 1, none⟩) (Kd.R_far (p := ⟨gb2370, 0, none⟩) (Kd.R_mono HO_2303002.out (fun k_ hk => (⟨hk, hk.2⟩ : _ ∧ k_ ≠ gb2370))) (fun _ hk => hk.2) (.int .i64 t2364)) (fun _ hk => hk.2) (.string t2365)) (fun _ hk => hk.2) (.string t2366)) (fun _ hk => hk.2) (.int .i64 t2367)) (fun _ hk => hk.2) (.int .i64 t2368)) (fun _ h_ => h_.1))) : P := h
theorem qh17_ {P : Prop} (h : P := by (with_reducible repeat (first | apply Kd.R_alloc | apply Kd.R_drewN | apply Kd.R_drew)); exact (Kd.R_mono (Kd.R_far (p := ⟨gb2345, 4, none⟩) (Kd.R_far (p := ⟨gb2345, 3, none⟩) (Kd.R_far (p := ⟨gb2345, 2, none⟩) (Kd.R_far (p := ⟨gb2345, 1, none⟩) (Kd.R_far (p := ⟨gb2345, 0, none⟩) (Kd.R_mono HO2336.out (fun k_ hk => (⟨hk, hk.2⟩ : _ ∧ k_ ≠ gb2345))) (fun _ hk => hk.2) (.int .i64 t2339)) (fun _ hk => hk.2) (.string t2340)) (fun _ hk => hk.2) (.string t2341)) (fun _ hk => hk.2) (.int .i64 t2342)) (fun _ hk => hk.2) (.int .i64 t2343)) (fun _ h_ => h_.1))) : P := h
theorem qh18_ {P : Prop} (h : P := by (with_reducible repeat (first | apply Kd.R_alloc | apply Kd.R_drewN | apply Kd.R_drew)); exact (Kd.R_mono (Kd.R_far (p := ⟨gb2331, 4, none⟩) (Kd.R_far (p := ⟨gb2331, 3, none⟩) (Kd.R_far (p := ⟨gb2331, 2, none⟩) (Kd.R_far (p := ⟨gb2331, 1, none⟩) (Kd.R_far (p := ⟨gb2331, 0, none⟩) (Kd.R_mono HO2315.out (fun k_ hk => (⟨hk, hk.2⟩ : _ ∧ k_ ≠ gb2331))) (fun _ hk => hk.2) (.int .i64 t2325)) (fun _ hk => hk.2) (.string t2326)) (fun _ hk => hk.2) (.string t2327)) (fun _ hk => hk.2) (.int .i64 t2328)) (fun _ hk => hk.2) (.int .i64 t2329)) (fun _ h_ => h_.1))) : P := h
theorem qh19_ {P : Prop} (h : P := by (with_reducible repeat (first | apply Kd.R_alloc | apply Kd.R_drewN | apply Kd.R_drew)); exact (Kd.R_mono (Kd.R_far (p := ⟨gb2331, 4, none⟩) (Kd.R_far (p := ⟨gb2331, 3, none⟩) (Kd.R_far (p := ⟨gb2331, 2, none⟩) (Kd.R_far (p := ⟨gb2331, 1, none⟩) (Kd.R_far (p := ⟨gb2331, 0, none⟩) (Kd.R_mono HO2307.out (fun k_ hk => (⟨hk, hk.2⟩ : _ ∧ k_ ≠ gb2331))) (fun _ hk => hk.2) (.int .i64 t2325)) (fun _ hk => hk.2) (.string t2326)) (fun _ hk => hk.2) (.string t2327)) (fun _ hk => hk.2) (.int .i64 t2328)) (fun _ hk => hk.2) (.int .i64 t2329)) (fun _ h_ => h_.1))) : P := h
theorem qh20_ {P : Prop} (h : P := by (with_reducible repeat (first | apply Kd.R_alloc | apply Kd.R_drewN | apply Kd.R_drew)); exact (Kd.R_mono (Kd.R_far (p := ⟨gb2331, 4, none⟩) (Kd.R_far (p := ⟨gb2331, 3, none⟩) (Kd.R_far (p := ⟨gb2331, 2, none⟩) (Kd.R_far (p := ⟨gb2331, 1, none⟩) (Kd.R_far (p := ⟨gb2331, 0, none⟩) (Kd.R_mono HO2299.out (fun k_ hk => (⟨hk, hk.2⟩ : _ ∧ k_ ≠ gb2331))) (fun _ hk => hk.2) (.int .i64 t2325)) (fun _ hk => hk.2) (.string t2326)) (fun _ hk => hk.2) (.string t2327)) (fun _ hk => hk.2) (.int .i64 t2328)) (fun _ hk => hk.2) (.int .i64 t2329)) (fun _ h_ => h_.1))) : P := h
theorem qh21_ {P : Prop} (h : P := by (with_reducible repeat (first | apply Kd.R_alloc | apply Kd.R_drewN | apply Kd.R_drew)); exact (Kd.R_mono (Kd.R_far (p := ⟨gb2331, 4, none⟩) (Kd.R_far (p := ⟨gb2331, 3, none⟩) (Kd.R_far (p := ⟨gb2331, 2, none⟩) (Kd.R_far (p := ⟨gb2331, 1, none⟩) (Kd.R_far (p := ⟨gb2331, 0, none⟩) (Kd.R_mono HO2289.out (fun k_ hk => (⟨hk, hk.2⟩ : _ ∧ k_ ≠ gb2331))) (fun _ hk => hk.2) (.int .i64 t2325)) (fun _ hk => hk.2) (.string t2326)) (fun _ hk => hk.2) (.string t2327)) (fun _ hk => hk.2) (.int .i64 t2328)) (fun _ hk => hk.2) (.int .i64 t2329)) (fun _ h_ => h_.1))) : P := h
theorem qh22_ {P : Prop} (h : P := by (with_reducible repeat (first | apply Kd.R_alloc | apply Kd.R_drewN | apply Kd.R_drew)); exact (Kd.R_mono (Kd.R_far (p := ⟨gb2324, 4, none⟩) (Kd.R_far (p := ⟨gb2324, 3, none⟩) (Kd.R_far (p := ⟨gb2324, 2, none⟩) (Kd.R_far (p := ⟨gb2324, 1, none⟩) (Kd.R_far (p := ⟨gb2324, 0, none⟩) (Kd.R_mono HO2315.out (fun k_ hk => (⟨hk, hk.2⟩ : _ ∧ k_ ≠ gb2324))) (fun _ hk => hk.2) (.int .i64 t2318)) (fun _ hk => hk.2) (.string t2319)) (fun _ hk => hk.2) (.string t2320)) (fun _ hk => hk.2) (.int .i64 t2321)) (fun _ hk => hk.2) (.int .i64 t2322)) (fun _ h_ => h_.1))) : P := h
theorem qh23_ {P : Prop} (h : P := by have := HJ2.out; have := HJ13.out; have := HJ119.out; have := HJ121.out; first | omega | exact Nat.le_refl _) : P := h
theorem qh24_ {P : Prop} (h : P := by have := HJ2.out; have := HJ13.out; have := HJ119.out; have := HJ121.out; have := HJ143.out; have := HJ218.out; have := HK7.out; have := HJ231.out; have := HJ253.out; first | omega | exact Nat.le_refl _) : P := h
theorem qh25_ {P : Prop} (h : P := by have := HJ2.out; first | omega | exact Nat.le_refl _) : P := h
theorem qh26_ {P : Prop} (h : P := by rw [qe_]; exact bp_ BK2352.out) : P := h
theorem qh27_ {P : Prop} (h : P := by have := HJ2.out; have := HJ13.out; have := HJ119.out; have := HJ121.out; have := HJ143.out; have := HJ218.out; have := HK7.out; have := HJ231.out; first | omega | exact Nat.le_refl _) : P := h
theorem qh28_ {P : Prop} (h : P := by have := HJ2.out; have := HJ13.out; have := HJ119.out; have := HJ121.out; have := HJ143.out; have := HJ218.out; have := HK7.out; first | omega | exact Nat.le_refl _) : P := h

section
attribute [local go_sem high] eqA_Item
set_option maxHeartbeats 24000000 in
set_option maxRecDepth 100000 in
theorem laws_FnRows.calls (k : Nat) (A0 : Option Addr) (c0 : Nat) (l0 : List Int) (r : Bool) (w : World) (hr0 : Kd.C (Kd.int .u8) w A0 l0.length l0) (hc0 : l0.length ≤ c0) (h : laws_FnRows.f k l0 = some r) :
 Calls Try.prog 6 #[.slice A0 l0.length c0] w fun e w' => e = .returned (.bool r) ∧ Below w.heap.size w w' := by
 have hu57 := Try.underlying57
 have hu69 := Try.underlying69
 have HR0 := Aside0.mk hr0
 have HC0 := Aside0.mk hc0
 clear hr0 hc0
 have HB := Aside0.mk (Below.refl w.heap.size w)
 have H : ((laws_big.f l0).bind fun t2284 => (if t2284 = true then (some true) else (laws_FnRows.j0 k l0))) = some r := h
 clear h
 replace H := Option.bind_eq_some_iff.mp H
 obtain ⟨t2284, A20, H⟩ := H
 replace H : (if t2284 = true then (some true) else (laws_FnRows.j0 k l0)) = some r := H
 have A2 := Aside0.mk A20
 clear A20
 have HC3 := Aside0.mk H
 clear H
 go_enter Try.func6, Try.ntmps6
 go_upto_if 34 with (first | ((with_reducible refine gate_callee (f := 12) rfl ?_); refine goesL_ (some 34) rfl rfl Try.func12 (by kernel_rfl) rfl #[.slice A0 l0.length c0] rfl sm_ ?_; (with_reducible refine (laws_big.calls _ _ l0 t2284 _ ?side1 ?side2 A2.out).mono ?_); (case side1 => repeat (first | exact HR0.out | (with_reducible refine Kd.C_alloc ?_ _) | (with_reducible refine Kd.C_drewN ?_ _) | (with_reducible refine Kd.C_drew ?_))); (case side2 => exact HC0.out); rintro e w' ⟨rfl, ⟨nd, rfl⟩⟩; refine ⟨_, rfl, ?_⟩))
 (try simp only [Act.put, List.setIfInBounds_toArray, List.set_cons_zero, List.set_cons_succ])
 go_cut [] (fun wc => ∃ (kq : Nat), Aside0 (laws_FnRows.j0 kq l0 = some r) ∧ Aside0 (kq ≤ k) ∧ Aside0 (Below w.heap.size w wc))
 case first =>
  have H := HC3.out
  clear HC3
  by_cases c4 : t2284 = true
  ·
   subst c4
   have H1 : (some true) = some r := by rw [if_pos rfl] at H; exact H
   clear H
   have H := H1
   clear H1
   obtain rfl := Option.some.inj H
   go_wp2
   go_ret
   exact ⟨er_, hb_ HB.out⟩
  ·
   replace c4 := Bool.eq_false_iff.mpr c4
   subst c4
   have H1 : (laws_FnRows.j0 k l0) = some r := by rw [if_neg (show ¬ (false = true) by decide)] at H; exact H
   clear H
   have H := H1
   clear H1
   have H' := Aside0.mk H
   clear H
   go_wp2
   go_meet
   case rel => exact ⟨_, H', ⟨by first | omega | exact Nat.le_refl _⟩, ⟨hb_ HB.out⟩⟩
 case rest =>
  as_aux_lemma =>
  clear HC3
  obtain ⟨kq, HA, HJ2, HB⟩ := hcut
  cases kq with
  | zero => exact absurd HA.out (by simp [laws_FnRows.j0])
  | succ kj2 =>
   have H := HA.out
   clear HA
   simp only [laws_FnRows.j0] at H
   replace H := Option.bind_eq_some_iff.mp H
   obtain ⟨⟨t2285, t2286, t2287, t2290, t2291, t2292, t2293⟩, A50, H⟩ := H
   replace H : ((impl_RowPut.f kj2 t2285 t2286 t2287 t2290 t2291 t2292 t2293).bind fun bt2295 => ((spec_RowPut.f kj2 t2285 t2286 t2287 t2290 t2291 t2292 t2293).bind fun bt2303 => ((spec_DrawRowGet.f kj2 l0).bind fun bt2311 => ((impl_RowGet.f kj2 bt2311.1 bt2311.2.1 bt2311.2.2.1 bt2311.2.2.2).bind fun bt2318 => ((spec_RowGet.f kj2 bt2311.1 bt2311.2.1 bt2311.2.2.1 bt2311.2.2.2).bind fun bt2325 => ((spec_DrawLatest.f kj2 l0).bind fun bt2332 => ((impl_Latest.f kj2 bt2332.1 bt2332.2.1 bt2332.2.2.1 bt2332.2.2.2).bind fun bt2339 => ((spec_Latest.f kj2 bt2332.1 bt2332.2.1 bt2332.2.2.1 bt2332.2.2.2).bind fun bt2346 => (if (bt2295.2.2.2.2 != bt2303.2.2.2.2) = true then (laws_FnRows.j1 kj2 t2290 t2291 bt2295.2.2.2.1 bt2295.2.2.2.2 true t2285 t2286 t2287 bt2295.1 bt2295.2.1 bt2295.2.2.1) else (if bt2295.2.2.2.1 = bt2303.2.2.2.1 then ((laws_sameRow.f kj2 bt2295.1 bt2295.2.1 bt2295.2.2.1 bt2303.1 bt2303.2.1 bt2303.2.2.1).bind fun t2353 => (if t2353 = true then (if (!(bt2318.1 == bt2325.1) || (!(bt2318.2.1.toList == bt2325.2.1.toList) || (!(bt2318.2.2.1.toList == bt2325.2.2.1.toList) || (!(bt2318.2.2.2.1 == bt2325.2.2.2.1) || (!(bt2318.2.2.2.2.1 == bt2325.2.2.2.2.1)))))) = true then (laws_FnRows.j1 kj2 t2290 t2291 bt2295.2.2.2.1 bt2295.2.2.2.2 true t2285 t2286 t2287 bt2295.1 bt2295.2.1 bt2295.2.2.1) else (if bt2318.2.2.2.2.2 = bt2325.2.2.2.2.2 then (if (!(bt2339.1 == bt2346.1) || (!(bt2339.2.1.toList == bt2346.2.1.toList) || (!(bt2339.2.2.1.toList == bt2346.2.2.1.toList) || (!(bt2339.2.2.2.1 == bt2346.2.2.2.1) || (!(bt2339.2.2.2.2.1 == bt2346.2.2.2.2.1)))))) = true then (laws_FnRows.j1 kj2 t2290 t2291 bt2295.2.2.2.1 bt2295.2.2.2.2 true t2285 t2286 t2287 bt2295.1 bt2295.2.1 bt2295.2.2.1) else (if (bt2339.2.2.2.2.2 != bt2346.2.2.2.2.2) = true then (laws_FnRows.j1 kj2 t2290 t2291 bt2295.2.2.2.1 bt2295.2.2.2.2 true t2285 t2286 t2287 bt2295.1 bt2295.2.1 bt2295.2.2.1) else ((impl_RowOk.f kj2 t2285 t2286 t2287).bind fun t2354 => ((spec_RowOk.f kj2 t2285 t2286 t2287).bind fun t2355 => (laws_FnRows.j1 kj2 t2290 t2291 bt2295.2.2.2.1 bt2295.2.2.2.2 (t2354 != t2355) t2285 t2286 t2287 bt2295.1 bt2295.2.1 bt2295.2.2.1))))) else (laws_FnRows.j1 kj2 t2290 t2291 bt2295.2.2.2.1 bt2295.2.2.2.2 true t2285 t2286 t2287 bt2295.1 bt2295.2.1 bt2295.2.2.1))) else (laws_FnRows.j1 kj2 t2290 t2291 bt2295.2.2.2.1 bt2295.2.2.2.2 true t2285 t2286 t2287 bt2295.1 bt2295.2.1 bt2295.2.2.1))) else (laws_FnRows.j1 kj2 t2290 t2291 bt2295.2.2.2.1 bt2295.2.2.2.2 true t2285 t2286 t2287 bt2295.1 bt2295.2.1 bt2295.2.2.1))))))))))) = some r := H
   have A5 := Aside0.mk A50
   clear A50
   replace H := Option.bind_eq_some_iff.mp H
   obtain ⟨⟨t2295, t2296, t2297, t2300, t2301⟩, A60, H⟩ := H
   replace H : ((spec_RowPut.f kj2 t2285 t2286 t2287 t2290 t2291 t2292 t2293).bind fun bt2303 => ((spec_DrawRowGet.f kj2 l0).bind fun bt2311 => ((impl_RowGet.f kj2 bt2311.1 bt2311.2.1 bt2311.2.2.1 bt2311.2.2.2).bind fun bt2318 => ((spec_RowGet.f kj2 bt2311.1 bt2311.2.1 bt2311.2.2.1 bt2311.2.2.2).bind fun bt2325 => ((spec_DrawLatest.f kj2 l0).bind fun bt2332 => ((impl_Latest.f kj2 bt2332.1 bt2332.2.1 bt2332.2.2.1 bt2332.2.2.2).bind fun bt2339 => ((spec_Latest.f kj2 bt2332.1 bt2332.2.1 bt2332.2.2.1 bt2332.2.2.2).bind fun bt2346 => (if (t2301 != bt2303.2.2.2.2) = true then (laws_FnRows.j1 kj2 t2290 t2291 t2300 t2301 true t2285 t2286 t2287 t2295 t2296 t2297) else (if t2300 = bt2303.2.2.2.1 then ((laws_sameRow.f kj2 t2295 t2296 t2297 bt2303.1 bt2303.2.1 bt2303.2.2.1).bind fun t2353 => (if t2353 = true then (if (!(bt2318.1 == bt2325.1) || (!(bt2318.2.1.toList == bt2325.2.1.toList) || (!(bt2318.2.2.1.toList == bt2325.2.2.1.toList) || (!(bt2318.2.2.2.1 == bt2325.2.2.2.1) || (!(bt2318.2.2.2.2.1 == bt2325.2.2.2.2.1)))))) = true then (laws_FnRows.j1 kj2 t2290 t2291 t2300 t2301 true t2285 t2286 t2287 t2295 t2296 t2297) else (if bt2318.2.2.2.2.2 = bt2325.2.2.2.2.2 then (if (!(bt2339.1 == bt2346.1) || (!(bt2339.2.1.toList == bt2346.2.1.toList) || (!(bt2339.2.2.1.toList == bt2346.2.2.1.toList) || (!(bt2339.2.2.2.1 == bt2346.2.2.2.1) || (!(bt2339.2.2.2.2.1 == bt2346.2.2.2.2.1)))))) = true then (laws_FnRows.j1 kj2 t2290 t2291 t2300 t2301 true t2285 t2286 t2287 t2295 t2296 t2297) else (if (bt2339.2.2.2.2.2 != bt2346.2.2.2.2.2) = true then (laws_FnRows.j1 kj2 t2290 t2291 t2300 t2301 true t2285 t2286 t2287 t2295 t2296 t2297) else ((impl_RowOk.f kj2 t2285 t2286 t2287).bind fun t2354 => ((spec_RowOk.f kj2 t2285 t2286 t2287).bind fun t2355 => (laws_FnRows.j1 kj2 t2290 t2291 t2300 t2301 (t2354 != t2355) t2285 t2286 t2287 t2295 t2296 t2297))))) else (laws_FnRows.j1 kj2 t2290 t2291 t2300 t2301 true t2285 t2286 t2287 t2295 t2296 t2297))) else (laws_FnRows.j1 kj2 t2290 t2291 t2300 t2301 true t2285 t2286 t2287 t2295 t2296 t2297))) else (laws_FnRows.j1 kj2 t2290 t2291 t2300 t2301 true t2285 t2286 t2287 t2295 t2296 t2297)))))))))) = some r := H
   have A6 := Aside0.mk A60
   clear A60
   replace H := Option.bind_eq_some_iff.mp H
   obtain ⟨⟨t2303, t2304, t2305, t2308, t2309⟩, A70, H⟩ := H
   replace H : ((spec_DrawRowGet.f kj2 l0).bind fun bt2311 => ((impl_RowGet.f kj2 bt2311.1 bt2311.2.1 bt2311.2.2.1 bt2311.2.2.2).bind fun bt2318 => ((spec_RowGet.f kj2 bt2311.1 bt2311.2.1 bt2311.2.2.1 bt2311.2.2.2).bind fun bt2325 => ((spec_DrawLatest.f kj2 l0).bind fun bt2332 => ((impl_Latest.f kj2 bt2332.1 bt2332.2.1 bt2332.2.2.1 bt2332.2.2.2).bind fun bt2339 => ((spec_Latest.f kj2 bt2332.1 bt2332.2.1 bt2332.2.2.1 bt2332.2.2.2).bind fun bt2346 => (if (t2301 != t2309) = true then (laws_FnRows.j1 kj2 t2290 t2291 t2300 t2301 true t2285 t2286 t2287 t2295 t2296 t2297) else (if t2300 = t2308 then ((laws_sameRow.f kj2 t2295 t2296 t2297 t2303 t2304 t2305).bind fun t2353 => (if t2353 = true then (if (!(bt2318.1 == bt2325.1) || (!(bt2318.2.1.toList == bt2325.2.1.toList) || (!(bt2318.2.2.1.toList == bt2325.2.2.1.toList) || (!(bt2318.2.2.2.1 == bt2325.2.2.2.1) || (!(bt2318.2.2.2.2.1 == bt2325.2.2.2.2.1)))))) = true then (laws_FnRows.j1 kj2 t2290 t2291 t2300 t2301 true t2285 t2286 t2287 t2295 t2296 t2297) else (if bt2318.2.2.2.2.2 = bt2325.2.2.2.2.2 then (if (!(bt2339.1 == bt2346.1) || (!(bt2339.2.1.toList == bt2346.2.1.toList) || (!(bt2339.2.2.1.toList == bt2346.2.2.1.toList) || (!(bt2339.2.2.2.1 == bt2346.2.2.2.1) || (!(bt2339.2.2.2.2.1 == bt2346.2.2.2.2.1)))))) = true then (laws_FnRows.j1 kj2 t2290 t2291 t2300 t2301 true t2285 t2286 t2287 t2295 t2296 t2297) else (if (bt2339.2.2.2.2.2 != bt2346.2.2.2.2.2) = true then (laws_FnRows.j1 kj2 t2290 t2291 t2300 t2301 true t2285 t2286 t2287 t2295 t2296 t2297) else ((impl_RowOk.f kj2 t2285 t2286 t2287).bind fun t2354 => ((spec_RowOk.f kj2 t2285 t2286 t2287).bind fun t2355 => (laws_FnRows.j1 kj2 t2290 t2291 t2300 t2301 (t2354 != t2355) t2285 t2286 t2287 t2295 t2296 t2297))))) else (laws_FnRows.j1 kj2 t2290 t2291 t2300 t2301 true t2285 t2286 t2287 t2295 t2296 t2297))) else (laws_FnRows.j1 kj2 t2290 t2291 t2300 t2301 true t2285 t2286 t2287 t2295 t2296 t2297))) else (laws_FnRows.j1 kj2 t2290 t2291 t2300 t2301 true t2285 t2286 t2287 t2295 t2296 t2297))))))))) = some r := H
   have A7 := Aside0.mk A70
   clear A70
   replace H := Option.bind_eq_some_iff.mp H
   obtain ⟨⟨t2311, t2312, t2313, t2316⟩, A80, H⟩ := H
   replace H : ((impl_RowGet.f kj2 t2311 t2312 t2313 t2316).bind fun bt2318 => ((spec_RowGet.f kj2 t2311 t2312 t2313 t2316).bind fun bt2325 => ((spec_DrawLatest.f kj2 l0).bind fun bt2332 => ((impl_Latest.f kj2 bt2332.1 bt2332.2.1 bt2332.2.2.1 bt2332.2.2.2).bind fun bt2339 => ((spec_Latest.f kj2 bt2332.1 bt2332.2.1 bt2332.2.2.1 bt2332.2.2.2).bind fun bt2346 => (if (t2301 != t2309) = true then (laws_FnRows.j1 kj2 t2290 t2291 t2300 t2301 true t2285 t2286 t2287 t2295 t2296 t2297) else (if t2300 = t2308 then ((laws_sameRow.f kj2 t2295 t2296 t2297 t2303 t2304 t2305).bind fun t2353 => (if t2353 = true then (if (!(bt2318.1 == bt2325.1) || (!(bt2318.2.1.toList == bt2325.2.1.toList) || (!(bt2318.2.2.1.toList == bt2325.2.2.1.toList) || (!(bt2318.2.2.2.1 == bt2325.2.2.2.1) || (!(bt2318.2.2.2.2.1 == bt2325.2.2.2.2.1)))))) = true then (laws_FnRows.j1 kj2 t2290 t2291 t2300 t2301 true t2285 t2286 t2287 t2295 t2296 t2297) else (if bt2318.2.2.2.2.2 = bt2325.2.2.2.2.2 then (if (!(bt2339.1 == bt2346.1) || (!(bt2339.2.1.toList == bt2346.2.1.toList) || (!(bt2339.2.2.1.toList == bt2346.2.2.1.toList) || (!(bt2339.2.2.2.1 == bt2346.2.2.2.1) || (!(bt2339.2.2.2.2.1 == bt2346.2.2.2.2.1)))))) = true then (laws_FnRows.j1 kj2 t2290 t2291 t2300 t2301 true t2285 t2286 t2287 t2295 t2296 t2297) else (if (bt2339.2.2.2.2.2 != bt2346.2.2.2.2.2) = true then (laws_FnRows.j1 kj2 t2290 t2291 t2300 t2301 true t2285 t2286 t2287 t2295 t2296 t2297) else ((impl_RowOk.f kj2 t2285 t2286 t2287).bind fun t2354 => ((spec_RowOk.f kj2 t2285 t2286 t2287).bind fun t2355 => (laws_FnRows.j1 kj2 t2290 t2291 t2300 t2301 (t2354 != t2355) t2285 t2286 t2287 t2295 t2296 t2297))))) else (laws_FnRows.j1 kj2 t2290 t2291 t2300 t2301 true t2285 t2286 t2287 t2295 t2296 t2297))) else (laws_FnRows.j1 kj2 t2290 t2291 t2300 t2301 true t2285 t2286 t2287 t2295 t2296 t2297))) else (laws_FnRows.j1 kj2 t2290 t2291 t2300 t2301 true t2285 t2286 t2287 t2295 t2296 t2297)))))))) = some r := H
   have A8 := Aside0.mk A80
   clear A80
   replace H := Option.bind_eq_some_iff.mp H
   obtain ⟨⟨t2318, t2319, t2320, t2321, t2322, t2323⟩, A90, H⟩ := H
   replace H : ((spec_RowGet.f kj2 t2311 t2312 t2313 t2316).bind fun bt2325 => ((spec_DrawLatest.f kj2 l0).bind fun bt2332 => ((impl_Latest.f kj2 bt2332.1 bt2332.2.1 bt2332.2.2.1 bt2332.2.2.2).bind fun bt2339 => ((spec_Latest.f kj2 bt2332.1 bt2332.2.1 bt2332.2.2.1 bt2332.2.2.2).bind fun bt2346 => (if (t2301 != t2309) = true then (laws_FnRows.j1 kj2 t2290 t2291 t2300 t2301 true t2285 t2286 t2287 t2295 t2296 t2297) else (if t2300 = t2308 then ((laws_sameRow.f kj2 t2295 t2296 t2297 t2303 t2304 t2305).bind fun t2353 => (if t2353 = true then (if (!(t2318 == bt2325.1) || (!(t2319.toList == bt2325.2.1.toList) || (!(t2320.toList == bt2325.2.2.1.toList) || (!(t2321 == bt2325.2.2.2.1) || (!(t2322 == bt2325.2.2.2.2.1)))))) = true then (laws_FnRows.j1 kj2 t2290 t2291 t2300 t2301 true t2285 t2286 t2287 t2295 t2296 t2297) else (if t2323 = bt2325.2.2.2.2.2 then (if (!(bt2339.1 == bt2346.1) || (!(bt2339.2.1.toList == bt2346.2.1.toList) || (!(bt2339.2.2.1.toList == bt2346.2.2.1.toList) || (!(bt2339.2.2.2.1 == bt2346.2.2.2.1) || (!(bt2339.2.2.2.2.1 == bt2346.2.2.2.2.1)))))) = true then (laws_FnRows.j1 kj2 t2290 t2291 t2300 t2301 true t2285 t2286 t2287 t2295 t2296 t2297) else (if (bt2339.2.2.2.2.2 != bt2346.2.2.2.2.2) = true then (laws_FnRows.j1 kj2 t2290 t2291 t2300 t2301 true t2285 t2286 t2287 t2295 t2296 t2297) else ((impl_RowOk.f kj2 t2285 t2286 t2287).bind fun t2354 => ((spec_RowOk.f kj2 t2285 t2286 t2287).bind fun t2355 => (laws_FnRows.j1 kj2 t2290 t2291 t2300 t2301 (t2354 != t2355) t2285 t2286 t2287 t2295 t2296 t2297))))) else (laws_FnRows.j1 kj2 t2290 t2291 t2300 t2301 true t2285 t2286 t2287 t2295 t2296 t2297))) else (laws_FnRows.j1 kj2 t2290 t2291 t2300 t2301 true t2285 t2286 t2287 t2295 t2296 t2297))) else (laws_FnRows.j1 kj2 t2290 t2291 t2300 t2301 true t2285 t2286 t2287 t2295 t2296 t2297))))))) = some r := H
   have A9 := Aside0.mk A90
   clear A90
   replace H := Option.bind_eq_some_iff.mp H
   obtain ⟨⟨t2325, t2326, t2327, t2328, t2329, t2330⟩, A100, H⟩ := H
   replace H : ((spec_DrawLatest.f kj2 l0).bind fun bt2332 => ((impl_Latest.f kj2 bt2332.1 bt2332.2.1 bt2332.2.2.1 bt2332.2.2.2).bind fun bt2339 => ((spec_Latest.f kj2 bt2332.1 bt2332.2.1 bt2332.2.2.1 bt2332.2.2.2).bind fun bt2346 => (if (t2301 != t2309) = true then (laws_FnRows.j1 kj2 t2290 t2291 t2300 t2301 true t2285 t2286 t2287 t2295 t2296 t2297) else (if t2300 = t2308 then ((laws_sameRow.f kj2 t2295 t2296 t2297 t2303 t2304 t2305).bind fun t2353 => (if t2353 = true then (if (!(t2318 == t2325) || (!(t2319.toList == t2326.toList) || (!(t2320.toList == t2327.toList) || (!(t2321 == t2328) || (!(t2322 == t2329)))))) = true then (laws_FnRows.j1 kj2 t2290 t2291 t2300 t2301 true t2285 t2286 t2287 t2295 t2296 t2297) else (if t2323 = t2330 then (if (!(bt2339.1 == bt2346.1) || (!(bt2339.2.1.toList == bt2346.2.1.toList) || (!(bt2339.2.2.1.toList == bt2346.2.2.1.toList) || (!(bt2339.2.2.2.1 == bt2346.2.2.2.1) || (!(bt2339.2.2.2.2.1 == bt2346.2.2.2.2.1)))))) = true then (laws_FnRows.j1 kj2 t2290 t2291 t2300 t2301 true t2285 t2286 t2287 t2295 t2296 t2297) else (if (bt2339.2.2.2.2.2 != bt2346.2.2.2.2.2) = true then (laws_FnRows.j1 kj2 t2290 t2291 t2300 t2301 true t2285 t2286 t2287 t2295 t2296 t2297) else ((impl_RowOk.f kj2 t2285 t2286 t2287).bind fun t2354 => ((spec_RowOk.f kj2 t2285 t2286 t2287).bind fun t2355 => (laws_FnRows.j1 kj2 t2290 t2291 t2300 t2301 (t2354 != t2355) t2285 t2286 t2287 t2295 t2296 t2297))))) else (laws_FnRows.j1 kj2 t2290 t2291 t2300 t2301 true t2285 t2286 t2287 t2295 t2296 t2297))) else (laws_FnRows.j1 kj2 t2290 t2291 t2300 t2301 true t2285 t2286 t2287 t2295 t2296 t2297))) else (laws_FnRows.j1 kj2 t2290 t2291 t2300 t2301 true t2285 t2286 t2287 t2295 t2296 t2297)))))) = some r := H
   have A10 := Aside0.mk A100
   clear A100
   replace H := Option.bind_eq_some_iff.mp H
   obtain ⟨⟨t2332, t2333, t2334, t2337⟩, A110, H⟩ := H
   replace H : ((impl_Latest.f kj2 t2332 t2333 t2334 t2337).bind fun bt2339 => ((spec_Latest.f kj2 t2332 t2333 t2334 t2337).bind fun bt2346 => (if (t2301 != t2309) = true then (laws_FnRows.j1 kj2 t2290 t2291 t2300 t2301 true t2285 t2286 t2287 t2295 t2296 t2297) else (if t2300 = t2308 then ((laws_sameRow.f kj2 t2295 t2296 t2297 t2303 t2304 t2305).bind fun t2353 => (if t2353 = true then (if (!(t2318 == t2325) || (!(t2319.toList == t2326.toList) || (!(t2320.toList == t2327.toList) || (!(t2321 == t2328) || (!(t2322 == t2329)))))) = true then (laws_FnRows.j1 kj2 t2290 t2291 t2300 t2301 true t2285 t2286 t2287 t2295 t2296 t2297) else (if t2323 = t2330 then (if (!(bt2339.1 == bt2346.1) || (!(bt2339.2.1.toList == bt2346.2.1.toList) || (!(bt2339.2.2.1.toList == bt2346.2.2.1.toList) || (!(bt2339.2.2.2.1 == bt2346.2.2.2.1) || (!(bt2339.2.2.2.2.1 == bt2346.2.2.2.2.1)))))) = true then (laws_FnRows.j1 kj2 t2290 t2291 t2300 t2301 true t2285 t2286 t2287 t2295 t2296 t2297) else (if (bt2339.2.2.2.2.2 != bt2346.2.2.2.2.2) = true then (laws_FnRows.j1 kj2 t2290 t2291 t2300 t2301 true t2285 t2286 t2287 t2295 t2296 t2297) else ((impl_RowOk.f kj2 t2285 t2286 t2287).bind fun t2354 => ((spec_RowOk.f kj2 t2285 t2286 t2287).bind fun t2355 => (laws_FnRows.j1 kj2 t2290 t2291 t2300 t2301 (t2354 != t2355) t2285 t2286 t2287 t2295 t2296 t2297))))) else (laws_FnRows.j1 kj2 t2290 t2291 t2300 t2301 true t2285 t2286 t2287 t2295 t2296 t2297))) else (laws_FnRows.j1 kj2 t2290 t2291 t2300 t2301 true t2285 t2286 t2287 t2295 t2296 t2297))) else (laws_FnRows.j1 kj2 t2290 t2291 t2300 t2301 true t2285 t2286 t2287 t2295 t2296 t2297))))) = some r := H
   have A11 := Aside0.mk A110
   clear A110
   replace H := Option.bind_eq_some_iff.mp H
   obtain ⟨⟨t2339, t2340, t2341, t2342, t2343, t2344⟩, A120, H⟩ := H
   replace H : ((spec_Latest.f kj2 t2332 t2333 t2334 t2337).bind fun bt2346 => (if (t2301 != t2309) = true then (laws_FnRows.j1 kj2 t2290 t2291 t2300 t2301 true t2285 t2286 t2287 t2295 t2296 t2297) else (if t2300 = t2308 then ((laws_sameRow.f kj2 t2295 t2296 t2297 t2303 t2304 t2305).bind fun t2353 => (if t2353 = true then (if (!(t2318 == t2325) || (!(t2319.toList == t2326.toList) || (!(t2320.toList == t2327.toList) || (!(t2321 == t2328) || (!(t2322 == t2329)))))) = true then (laws_FnRows.j1 kj2 t2290 t2291 t2300 t2301 true t2285 t2286 t2287 t2295 t2296 t2297) else (if t2323 = t2330 then (if (!(t2339 == bt2346.1) || (!(t2340.toList == bt2346.2.1.toList) || (!(t2341.toList == bt2346.2.2.1.toList) || (!(t2342 == bt2346.2.2.2.1) || (!(t2343 == bt2346.2.2.2.2.1)))))) = true then (laws_FnRows.j1 kj2 t2290 t2291 t2300 t2301 true t2285 t2286 t2287 t2295 t2296 t2297) else (if (t2344 != bt2346.2.2.2.2.2) = true then (laws_FnRows.j1 kj2 t2290 t2291 t2300 t2301 true t2285 t2286 t2287 t2295 t2296 t2297) else ((impl_RowOk.f kj2 t2285 t2286 t2287).bind fun t2354 => ((spec_RowOk.f kj2 t2285 t2286 t2287).bind fun t2355 => (laws_FnRows.j1 kj2 t2290 t2291 t2300 t2301 (t2354 != t2355) t2285 t2286 t2287 t2295 t2296 t2297))))) else (laws_FnRows.j1 kj2 t2290 t2291 t2300 t2301 true t2285 t2286 t2287 t2295 t2296 t2297))) else (laws_FnRows.j1 kj2 t2290 t2291 t2300 t2301 true t2285 t2286 t2287 t2295 t2296 t2297))) else (laws_FnRows.j1 kj2 t2290 t2291 t2300 t2301 true t2285 t2286 t2287 t2295 t2296 t2297)))) = some r := H
   have A12 := Aside0.mk A120
   clear A120
   replace H := Option.bind_eq_some_iff.mp H
   obtain ⟨⟨t2346, t2347, t2348, t2349, t2350, t2351⟩, A130, H⟩ := H
   replace H : (if (t2301 != t2309) = true then (laws_FnRows.j1 kj2 t2290 t2291 t2300 t2301 true t2285 t2286 t2287 t2295 t2296 t2297) else (if t2300 = t2308 then ((laws_sameRow.f kj2 t2295 t2296 t2297 t2303 t2304 t2305).bind fun t2353 => (if t2353 = true then (if (!(t2318 == t2325) || (!(t2319.toList == t2326.toList) || (!(t2320.toList == t2327.toList) || (!(t2321 == t2328) || (!(t2322 == t2329)))))) = true then (laws_FnRows.j1 kj2 t2290 t2291 t2300 t2301 true t2285 t2286 t2287 t2295 t2296 t2297) else (if t2323 = t2330 then (if (!(t2339 == t2346) || (!(t2340.toList == t2347.toList) || (!(t2341.toList == t2348.toList) || (!(t2342 == t2349) || (!(t2343 == t2350)))))) = true then (laws_FnRows.j1 kj2 t2290 t2291 t2300 t2301 true t2285 t2286 t2287 t2295 t2296 t2297) else (if (t2344 != t2351) = true then (laws_FnRows.j1 kj2 t2290 t2291 t2300 t2301 true t2285 t2286 t2287 t2295 t2296 t2297) else ((impl_RowOk.f kj2 t2285 t2286 t2287).bind fun t2354 => ((spec_RowOk.f kj2 t2285 t2286 t2287).bind fun t2355 => (laws_FnRows.j1 kj2 t2290 t2291 t2300 t2301 (t2354 != t2355) t2285 t2286 t2287 t2295 t2296 t2297))))) else (laws_FnRows.j1 kj2 t2290 t2291 t2300 t2301 true t2285 t2286 t2287 t2295 t2296 t2297))) else (laws_FnRows.j1 kj2 t2290 t2291 t2300 t2301 true t2285 t2286 t2287 t2295 t2296 t2297))) else (laws_FnRows.j1 kj2 t2290 t2291 t2300 t2301 true t2285 t2286 t2287 t2295 t2296 t2297))) = some r := H
   have A13 := Aside0.mk A130
   clear A130
   have HC14 := Aside0.mk H
   clear H
   go_upto_region 12 with (first | ((with_reducible refine gate_callee (f := 36) rfl ?_); refine goesL_ (some 37) rfl rfl Try.func36 (by kernel_rfl) rfl #[.slice A0 l0.length c0] rfl sm_ ?_; (with_reducible refine (spec_DrawRowPut.calls kj2 _ _ l0 t2285 t2286 t2287 t2290 t2291 t2292 t2293 _ ?side1 ?side2 A5.out).mono ?_); (case side1 => repeat (first | exact (Kd.C_below HR0.out HB.out) | (with_reducible refine Kd.C_alloc ?_ _) | (with_reducible refine Kd.C_drewN ?_ _) | (with_reducible refine Kd.C_drew ?_))); (case side2 => exact HC0.out); rintro e w15 ⟨v2288, rfl, ho0, hb⟩; refine ⟨_, rfl, ?_⟩; have HO2289 := Aside0.mk (Kd.R_lower ho0 (below_size (hb_ HB.out))); replace HB := ch_ HB hb; (try clear hb); (try clear hb2); (try clear hk); (try clear hi); (try clear ho0)) | ((with_reducible refine gate_dst (N := 3) rfl ?_); refine box_event ?hg (N := 3) ?hd (cs := #[.int .i64 0, .int .i64 0, .slice none 0 0]) (t := 57) ?hr ?_; (case hd => rfl); (case hg => rfl); (case hr => first | (go_simp; done) | (go_simp; rfl)); intro gb2294 hg w16 hbox hb; have BK2294 := Aside0.mk (hbox); have GW2294 := cz_ HB hg; have GE2294 := cz_ HB hg; replace HO2289 := cr_ HO2289 hb; replace HB := ch_ HB hb; clear hb hbox hg; have hcz17_0 : w16.cell? ⟨gb2294, 0, none⟩ = some (.int .i64 0) := bc_ BK2294 0; have hcz17_1 : w16.cell? ⟨gb2294, 1, none⟩ = some (.int .i64 0) := bc_ BK2294 1; have hcz17_2 : w16.cell? ⟨gb2294, 2, none⟩ = some (.slice none 0 0) := bc_ BK2294 2; have hfz17_0 := blk_frozen BK2294.out 0; have hfz17_1 := blk_frozen BK2294.out 1; have hfz17_2 := blk_frozen BK2294.out 2; obtain ⟨Ao18, co18, eo18⟩ := Kd.R_slice HO2289.out; subst eo18) | ((with_reducible refine gate_callee (f := 32) rfl ?_); refine goesL_ (some 49) rfl rfl Try.func32 (by kernel_rfl) rfl #[.agg #[.int .i64 t2285, .int .i64 t2286, .slice Ao18 t2287.length co18], .string t2290, .string t2291, .int .i64 t2292, .int .i64 t2293] rfl sm_ ?_; (with_reducible refine (impl_RowPut.calls kj2 t2285 t2286 _ _ t2287 t2290 t2291 t2292 t2293 t2295 t2296 t2297 t2300 t2301 _ ?side1 ?side2 A6.out).mono ?_); (case side1 => refine (Kd.R_reads' (e := 69) (base := w.heap.size) (ok := fun k_ => True) (n := t2287.length) (c := co18) ?_).2.2; exact (rk_ HO2289.out BK2294.out)); (case side2 => exact (Kd.R_reads' HO2289.out).2.1); rintro e w19 ⟨v2298, rfl, ho0, hb⟩; refine ⟨_, rfl, ?_⟩; have HO2299 := Aside0.mk (Kd.R_lower (Kd.R_new' ho0 (Kd.R_lt (rk_ HO2289.out BK2294.out))) (below_size (hb_ HB.out))); replace HO2289 := Aside0.mk (Kd.R_elder' (rk_ HO2289.out BK2294.out) (Kd.R_base ho0) hb); replace BK2294 := Aside0.mk (blk_below (g := gb2294) (o := .cells #[.int .i64 t2285, .int .i64 t2286, .slice Ao18 t2287.length co18] 57 (0, 0)) (bp_ BK2294.out) hb); replace HB := ch_ HB hb; (try clear hb); (try clear hb2); (try clear hk); (try clear hi); (try clear ho0)) | ((with_reducible refine gate_dst (N := 8) rfl ?_); refine box_event ?hg (N := 8) ?hd (cs := #[.int .i64 0, .int .i64 0, .slice none 0 0]) (t := 57) ?hr ?_; (case hd => rfl); (case hg => rfl); (case hr => first | (go_simp; done) | (go_simp; rfl)); intro gb2302 hg w20 hbox hb; have BK2302 := Aside0.mk (hbox); have GW2302 := cz_ HB hg; have GE2302 := cz_ HB hg; have NB2294_2302 := cn_ BK2294 hg; have NB2302_2294 := cm_ BK2294 hg; replace HO2289 := cr_ HO2289 hb; replace HO2299 := cr_ HO2299 hb; replace BK2294 := cb_ BK2294 hb; replace HB := ch_ HB hb; clear hb hbox hg; have hnb21 := NB2302_2294.out; have hnc21 := NB2294_2302.out; have hcz22_0 : w20.cell? ⟨gb2302, 0, none⟩ = some (.int .i64 0) := bc_ BK2302 0; have hcz22_1 : w20.cell? ⟨gb2302, 1, none⟩ = some (.int .i64 0) := bc_ BK2302 1; have hcz22_2 : w20.cell? ⟨gb2302, 2, none⟩ = some (.slice none 0 0) := bc_ BK2302 2; have hfz22_0 := blk_frozen BK2302.out 0; have hfz22_1 := blk_frozen BK2302.out 1; have hfz22_2 := blk_frozen BK2302.out 2; obtain ⟨Ao23, co23, eo23⟩ := Kd.R_slice HO2299.out; subst eo23; have hcz24_0 : w20.cell? ⟨gb2294, 0, none⟩ = some (.int .i64 t2285) := bc_ BK2294 0; have hcz24_1 : w20.cell? ⟨gb2294, 1, none⟩ = some (.int .i64 t2286) := bc_ BK2294 1; have hcz24_2 : w20.cell? ⟨gb2294, 2, none⟩ = some (.slice Ao18 t2287.length co18) := bc_ BK2294 2; have hfz24_0 := blk_frozen BK2294.out 0; have hfz24_1 := blk_frozen BK2294.out 1; have hfz24_2 := blk_frozen BK2294.out 2) | ((with_reducible refine gate_callee (f := 30) rfl ?_); refine goesL_ (some 59) rfl rfl Try.func30 (by kernel_rfl) rfl #[.agg #[.int .i64 t2285, .int .i64 t2286, .slice Ao18 t2287.length co18], .string t2290, .string t2291, .int .i64 t2292, .int .i64 t2293] rfl sm_ ?_; (with_reducible refine (spec_RowPut.calls kj2 t2285 t2286 _ _ t2287 t2290 t2291 t2292 t2293 t2303 t2304 t2305 t2308 t2309 _ ?side1 ?side2 A7.out).mono ?_); (case side1 => refine (Kd.R_reads' (e := 69) (base := w.heap.size) (ok := fun k_ => (True ∧ some k_ ≠ (.slice Ao23 t2297.length co23 : Value).ownBlock)) (n := t2287.length) (c := co18) ?_).2.2; exact (rk_ HO2289.out BK2302.out)); (case side2 => exact (Kd.R_reads' HO2289.out).2.1); rintro e w25 ⟨v2306, rfl, ho0, hb⟩; refine ⟨_, rfl, ?_⟩; have HO2307 := Aside0.mk (Kd.R_lower (Kd.R_new' (Kd.R_new' ho0 (Kd.R_lt (rk_ HO2289.out BK2302.out))) (Kd.R_lt (rk_ HO2299.out BK2302.out))) (below_size (hb_ HB.out))); replace HO2289 := Aside0.mk (Kd.R_elder' (rk_ HO2289.out BK2302.out) (Kd.R_base ho0) hb); replace HO2299 := Aside0.mk (Kd.R_elder' (rk_ HO2299.out BK2302.out) (Kd.R_base ho0) hb); replace BK2294 := Aside0.mk (blk_below (g := gb2294) (o := .cells #[.int .i64 t2285, .int .i64 t2286, .slice Ao18 t2287.length co18] 57 (0, 0)) (bf_ NB2294_2302.out BK2294.out) hb); replace BK2302 := Aside0.mk (blk_below (g := gb2302) (o := .cells #[.int .i64 t2295, .int .i64 t2296, .slice Ao23 t2297.length co23] 57 (0, 0)) (bp_ BK2302.out) hb); replace HB := ch_ HB hb; (try clear hb); (try clear hb2); (try clear hk); (try clear hi); (try clear ho0)) | ((with_reducible refine gate_dst (N := 11) rfl ?_); refine box_event ?hg (N := 11) ?hd (cs := #[.int .i64 0, .int .i64 0, .slice none 0 0]) (t := 57) ?hr ?_; (case hd => rfl); (case hg => rfl); (case hr => first | (go_simp; done) | (go_simp; rfl)); intro gb2310 hg w26 hbox hb; have BK2310 := Aside0.mk (hbox); have GW2310 := cz_ HB hg; have GE2310 := cz_ HB hg; have NB2294_2310 := cn_ BK2294 hg; have NB2310_2294 := cm_ BK2294 hg; have NB2302_2310 := cn_ BK2302 hg; have NB2310_2302 := cm_ BK2302 hg; replace HO2289 := cr_ HO2289 hb; replace HO2299 := cr_ HO2299 hb; replace HO2307 := cr_ HO2307 hb; replace BK2294 := cb_ BK2294 hb; replace BK2302 := cb_ BK2302 hb; replace HB := ch_ HB hb; clear hb hbox hg; have hnb27 := NB2310_2294.out; have hnc27 := NB2294_2310.out; have hnb28 := NB2310_2302.out; have hnc28 := NB2302_2310.out; have hcz29_0 : w26.cell? ⟨gb2310, 0, none⟩ = some (.int .i64 0) := bc_ BK2310 0; have hcz29_1 : w26.cell? ⟨gb2310, 1, none⟩ = some (.int .i64 0) := bc_ BK2310 1; have hcz29_2 : w26.cell? ⟨gb2310, 2, none⟩ = some (.slice none 0 0) := bc_ BK2310 2; have hfz29_0 := blk_frozen BK2310.out 0; have hfz29_1 := blk_frozen BK2310.out 1; have hfz29_2 := blk_frozen BK2310.out 2; obtain ⟨Ao30, co30, eo30⟩ := Kd.R_slice HO2307.out; subst eo30) | ((with_reducible refine gate_callee (f := 37) rfl ?_); refine goesL_ (some 65) rfl rfl Try.func37 (by kernel_rfl) rfl #[.slice A0 l0.length c0] rfl sm_ ?_; (with_reducible refine (spec_DrawRowGet.calls kj2 _ _ l0 t2311 t2312 t2313 t2316 _ ?side1 ?side2 A8.out).mono ?_); (case side1 => exact Kd.C_below HR0.out (hb_ HB.out)); (case side2 => exact HC0.out); rintro e w31 ⟨v2314, rfl, ho0, hb⟩; refine ⟨_, rfl, ?_⟩; have HO2315 := Aside0.mk (Kd.R_lower (Kd.R_new' (Kd.R_new' (Kd.R_new' ho0 (Kd.R_lt (rk_ HO2289.out BK2310.out))) (Kd.R_lt (rk_ HO2299.out BK2310.out))) (Kd.R_lt (rk_ HO2307.out BK2310.out))) (below_size (hb_ HB.out))); replace HO2289 := Aside0.mk (Kd.R_elder' (rk_ HO2289.out BK2310.out) (Kd.R_base ho0) hb); replace HO2299 := Aside0.mk (Kd.R_elder' (rk_ HO2299.out BK2310.out) (Kd.R_base ho0) hb); replace HO2307 := Aside0.mk (Kd.R_elder' (rk_ HO2307.out BK2310.out) (Kd.R_base ho0) hb); replace BK2294 := Aside0.mk (blk_below (g := gb2294) (o := .cells #[.int .i64 t2285, .int .i64 t2286, .slice Ao18 t2287.length co18] 57 (0, 0)) (bf_ NB2294_2310.out BK2294.out) hb); replace BK2302 := Aside0.mk (blk_below (g := gb2302) (o := .cells #[.int .i64 t2295, .int .i64 t2296, .slice Ao23 t2297.length co23] 57 (0, 0)) (bf_ NB2302_2310.out BK2302.out) hb); replace BK2310 := Aside0.mk (blk_below (g := gb2310) (o := .cells #[.int .i64 t2303, .int .i64 t2304, .slice Ao30 t2305.length co30] 57 (0, 0)) (bp_ BK2310.out) hb); replace HB := ch_ HB hb; (try clear hb); (try clear hb2); (try clear hk); (try clear hi); (try clear ho0)) | ((with_reducible refine gate_dst (N := 14) rfl ?_); refine box_event ?hg (N := 14) ?hd (cs := #[.int .i64 0, .int .i64 0, .slice none 0 0]) (t := 57) ?hr ?_; (case hd => rfl); (case hg => rfl); (case hr => first | (go_simp; done) | (go_simp; rfl)); intro gb2317 hg w32 hbox hb; have BK2317 := Aside0.mk (hbox); have GW2317 := cz_ HB hg; have GE2317 := cz_ HB hg; have NB2294_2317 := cn_ BK2294 hg; have NB2317_2294 := cm_ BK2294 hg; have NB2302_2317 := cn_ BK2302 hg; have NB2317_2302 := cm_ BK2302 hg; have NB2310_2317 := cn_ BK2310 hg; have NB2317_2310 := cm_ BK2310 hg; replace HO2289 := cr_ HO2289 hb; replace HO2299 := cr_ HO2299 hb; replace HO2307 := cr_ HO2307 hb; replace HO2315 := cr_ HO2315 hb; replace BK2294 := cb_ BK2294 hb; replace BK2302 := cb_ BK2302 hb; replace BK2310 := cb_ BK2310 hb; replace HB := ch_ HB hb; clear hb hbox hg; have hnb33 := NB2317_2294.out; have hnc33 := NB2294_2317.out; have hnb34 := NB2317_2302.out; have hnc34 := NB2302_2317.out; have hnb35 := NB2317_2310.out; have hnc35 := NB2310_2317.out; have hcz36_0 : w32.cell? ⟨gb2317, 0, none⟩ = some (.int .i64 0) := bc_ BK2317 0; have hcz36_1 : w32.cell? ⟨gb2317, 1, none⟩ = some (.int .i64 0) := bc_ BK2317 1; have hcz36_2 : w32.cell? ⟨gb2317, 2, none⟩ = some (.slice none 0 0) := bc_ BK2317 2; have hfz36_0 := blk_frozen BK2317.out 0; have hfz36_1 := blk_frozen BK2317.out 1; have hfz36_2 := blk_frozen BK2317.out 2; obtain ⟨Ao37, co37, eo37⟩ := Kd.R_slice HO2315.out; subst eo37) | ((with_reducible refine gate_callee (f := 38) rfl ?_); refine goesL_ (some 71) rfl rfl Try.func38 (by kernel_rfl) rfl #[.agg #[.int .i64 t2311, .int .i64 t2312, .slice Ao37 t2313.length co37], .int .i64 t2316] rfl sm_ ?_; (with_reducible refine (impl_RowGet.calls kj2 t2311 t2312 _ _ t2313 t2316 t2318 t2319 t2320 t2321 t2322 t2323 _ ?side1 ?side2 A9.out).mono ?_); (case side1 => refine (Kd.R_reads' (e := 69) (base := w.heap.size) (ok := fun k_ => (((True ∧ some k_ ≠ (.slice Ao18 t2287.length co18 : Value).ownBlock) ∧ some k_ ≠ (.slice Ao23 t2297.length co23 : Value).ownBlock) ∧ some k_ ≠ (.slice Ao30 t2305.length co30 : Value).ownBlock)) (n := t2313.length) (c := co37) ?_).2.2; exact (rk_ HO2315.out BK2317.out)); (case side2 => exact (Kd.R_reads' HO2315.out).2.1); rintro e w38 ⟨rfl, hb⟩; refine ⟨_, rfl, ?_⟩; replace HO2289 := Aside0.mk (Kd.R_below (rk_ HO2289.out BK2317.out) hb); replace HO2299 := Aside0.mk (Kd.R_below (rk_ HO2299.out BK2317.out) hb); replace HO2307 := Aside0.mk (Kd.R_below (rk_ HO2307.out BK2317.out) hb); replace HO2315 := Aside0.mk (Kd.R_below (rk_ HO2315.out BK2317.out) hb); replace BK2294 := Aside0.mk (blk_below (g := gb2294) (o := .cells #[.int .i64 t2285, .int .i64 t2286, .slice Ao18 t2287.length co18] 57 (0, 0)) (bf_ NB2294_2317.out BK2294.out) hb); replace BK2302 := Aside0.mk (blk_below (g := gb2302) (o := .cells #[.int .i64 t2295, .int .i64 t2296, .slice Ao23 t2297.length co23] 57 (0, 0)) (bf_ NB2302_2317.out BK2302.out) hb); replace BK2310 := Aside0.mk (blk_below (g := gb2310) (o := .cells #[.int .i64 t2303, .int .i64 t2304, .slice Ao30 t2305.length co30] 57 (0, 0)) (bf_ NB2310_2317.out BK2310.out) hb); replace BK2317 := Aside0.mk (blk_below (g := gb2317) (o := .cells #[.int .i64 t2311, .int .i64 t2312, .slice Ao37 t2313.length co37] 57 (0, 0)) (bp_ BK2317.out) hb); replace HB := ch_ HB hb; (try clear hb); (try clear hb2); (try clear hk); (try clear hi)) | ((with_reducible refine gate_dst (N := 16) rfl ?_); refine box_event ?hg (N := 16) ?hd (cs := #[.int .i64 0, .string (⟨#[]⟩ : ByteArray), .string (⟨#[]⟩ : ByteArray), .int .i64 0, .int .i64 0]) (t := 69) ?hr ?_; (case hd => rfl); (case hg => rfl); (case hr => first | (go_simp; done) | (go_simp; rfl)); intro gb2324 hg w39 hbox hb; have BK2324 := Aside0.mk (hbox); have GW2324 := cz_ HB hg; have GE2324 := cz_ HB hg; have NB2294_2324 := cn_ BK2294 hg; have NB2324_2294 := cm_ BK2294 hg; have NB2302_2324 := cn_ BK2302 hg; have NB2324_2302 := cm_ BK2302 hg; have NB2310_2324 := cn_ BK2310 hg; have NB2324_2310 := cm_ BK2310 hg; have NB2317_2324 := cn_ BK2317 hg; have NB2324_2317 := cm_ BK2317 hg; replace HO2289 := Aside0.mk (Kd.R_below (Kd.R_elderB (rq_ HO2289.out) gb2324 (Nat.le_of_eq hg.symm)) hb); replace HO2299 := Aside0.mk (Kd.R_below (Kd.R_elderB (rq_ HO2299.out) gb2324 (Nat.le_of_eq hg.symm)) hb); replace HO2307 := Aside0.mk (Kd.R_below (Kd.R_elderB (rq_ HO2307.out) gb2324 (Nat.le_of_eq hg.symm)) hb); replace HO2315 := Aside0.mk (Kd.R_below (Kd.R_elderB (rq_ HO2315.out) gb2324 (Nat.le_of_eq hg.symm)) hb); replace BK2294 := cb_ BK2294 hb; replace BK2302 := cb_ BK2302 hb; replace BK2310 := cb_ BK2310 hb; replace BK2317 := cb_ BK2317 hb; replace HB := ch_ HB hb; clear hb hbox hg; have hnb40 := NB2324_2294.out; have hnc40 := NB2294_2324.out; have hnb41 := NB2324_2302.out; have hnc41 := NB2302_2324.out; have hnb42 := NB2324_2310.out; have hnc42 := NB2310_2324.out; have hnb43 := NB2324_2317.out; have hnc43 := NB2317_2324.out; have hcz44_0 : w39.cell? ⟨gb2324, 0, none⟩ = some (.int .i64 0) := bc_ BK2324 0; have hcz44_1 : w39.cell? ⟨gb2324, 1, none⟩ = some (.string (⟨#[]⟩ : ByteArray)) := bc_ BK2324 1; have hcz44_2 : w39.cell? ⟨gb2324, 2, none⟩ = some (.string (⟨#[]⟩ : ByteArray)) := bc_ BK2324 2; have hcz44_3 : w39.cell? ⟨gb2324, 3, none⟩ = some (.int .i64 0) := bc_ BK2324 3; have hcz44_4 : w39.cell? ⟨gb2324, 4, none⟩ = some (.int .i64 0) := bc_ BK2324 4; have hfz44_0 := blk_frozen BK2324.out 0; have hfz44_1 := blk_frozen BK2324.out 1; have hfz44_2 := blk_frozen BK2324.out 2; have hfz44_3 := blk_frozen BK2324.out 3; have hfz44_4 := blk_frozen BK2324.out 4; have hcz45_0 : w39.cell? ⟨gb2317, 0, none⟩ = some (.int .i64 t2311) := bc_ BK2317 0; have hcz45_1 : w39.cell? ⟨gb2317, 1, none⟩ = some (.int .i64 t2312) := bc_ BK2317 1; have hcz45_2 : w39.cell? ⟨gb2317, 2, none⟩ = some (.slice Ao37 t2313.length co37) := bc_ BK2317 2; have hfz45_0 := blk_frozen BK2317.out 0; have hfz45_1 := blk_frozen BK2317.out 1; have hfz45_2 := blk_frozen BK2317.out 2) | ((with_reducible refine gate_callee (f := 39) rfl ?_); refine goesL_ (some 77) rfl rfl Try.func39 (by kernel_rfl) rfl #[.agg #[.int .i64 t2311, .int .i64 t2312, .slice Ao37 t2313.length co37], .int .i64 t2316] rfl sm_ ?_; (with_reducible refine (spec_RowGet.calls kj2 t2311 t2312 _ _ t2313 t2316 t2325 t2326 t2327 t2328 t2329 t2330 _ ?side1 ?side2 A10.out).mono ?_); (case side1 => refine (Kd.R_reads' (e := 69) (base := w.heap.size) (ok := fun k_ => ((((True ∧ some k_ ≠ (.slice Ao18 t2287.length co18 : Value).ownBlock) ∧ some k_ ≠ (.slice Ao23 t2297.length co23 : Value).ownBlock) ∧ some k_ ≠ (.slice Ao30 t2305.length co30 : Value).ownBlock) ∧ k_ ≠ gb2324)) (n := t2313.length) (c := co37) ?_).2.2; exact (qh22_)); (case side2 => exact (Kd.R_reads' HO2315.out).2.1); rintro e w46 ⟨rfl, hb⟩; refine ⟨_, rfl, ?_⟩; replace HO2289 := Aside0.mk (Kd.R_below (by (with_reducible repeat (first | apply Kd.R_alloc | apply Kd.R_drewN | apply Kd.R_drew)); exact (Kd.R_mono (Kd.R_far (p := ⟨gb2324, 4, none⟩) (Kd.R_far (p := ⟨gb2324, 3, none⟩) (Kd.R_far (p := ⟨gb2324, 2, none⟩) (Kd.R_far (p := ⟨gb2324, 1, none⟩) (Kd.R_far (p := ⟨gb2324, 0, none⟩) (Kd.R_mono HO2289.out (fun k_ hk => (⟨hk, hk.2⟩ : _ ∧ k_ ≠ gb2324))) (fun _ hk => hk.2) (.int .i64 t2318)) (fun _ hk => hk.2) (.string t2319)) (fun _ hk => hk.2) (.string t2320)) (fun _ hk => hk.2) (.int .i64 t2321)) (fun _ hk => hk.2) (.int .i64 t2322)) (fun _ h_ => h_.1))) hb); replace HO2299 := Aside0.mk (Kd.R_below (by (with_reducible repeat (first | apply Kd.R_alloc | apply Kd.R_drewN | apply Kd.R_drew)); exact (Kd.R_mono (Kd.R_far (p := ⟨gb2324, 4, none⟩) (Kd.R_far (p := ⟨gb2324, 3, none⟩) (Kd.R_far (p := ⟨gb2324, 2, none⟩) (Kd.R_far (p := ⟨gb2324, 1, none⟩) (Kd.R_far (p := ⟨gb2324, 0, none⟩) (Kd.R_mono HO2299.out (fun k_ hk => (⟨hk, hk.2⟩ : _ ∧ k_ ≠ gb2324))) (fun _ hk => hk.2) (.int .i64 t2318)) (fun _ hk => hk.2) (.string t2319)) (fun _ hk => hk.2) (.string t2320)) (fun _ hk => hk.2) (.int .i64 t2321)) (fun _ hk => hk.2) (.int .i64 t2322)) (fun _ h_ => h_.1))) hb); replace HO2307 := Aside0.mk (Kd.R_below (by (with_reducible repeat (first | apply Kd.R_alloc | apply Kd.R_drewN | apply Kd.R_drew)); exact (Kd.R_mono (Kd.R_far (p := ⟨gb2324, 4, none⟩) (Kd.R_far (p := ⟨gb2324, 3, none⟩) (Kd.R_far (p := ⟨gb2324, 2, none⟩) (Kd.R_far (p := ⟨gb2324, 1, none⟩) (Kd.R_far (p := ⟨gb2324, 0, none⟩) (Kd.R_mono HO2307.out (fun k_ hk => (⟨hk, hk.2⟩ : _ ∧ k_ ≠ gb2324))) (fun _ hk => hk.2) (.int .i64 t2318)) (fun _ hk => hk.2) (.string t2319)) (fun _ hk => hk.2) (.string t2320)) (fun _ hk => hk.2) (.int .i64 t2321)) (fun _ hk => hk.2) (.int .i64 t2322)) (fun _ h_ => h_.1))) hb); replace HO2315 := Aside0.mk (Kd.R_below (qh22_) hb); replace BK2294 := Aside0.mk (blk_below (g := gb2294) (o := .cells #[.int .i64 t2285, .int .i64 t2286, .slice Ao18 t2287.length co18] 57 (0, 0)) (bf_ NB2294_2324.out BK2294.out) hb); replace BK2302 := Aside0.mk (blk_below (g := gb2302) (o := .cells #[.int .i64 t2295, .int .i64 t2296, .slice Ao23 t2297.length co23] 57 (0, 0)) (bf_ NB2302_2324.out BK2302.out) hb); replace BK2310 := Aside0.mk (blk_below (g := gb2310) (o := .cells #[.int .i64 t2303, .int .i64 t2304, .slice Ao30 t2305.length co30] 57 (0, 0)) (bf_ NB2310_2324.out BK2310.out) hb); replace BK2317 := Aside0.mk (blk_below (g := gb2317) (o := .cells #[.int .i64 t2311, .int .i64 t2312, .slice Ao37 t2313.length co37] 57 (0, 0)) (bf_ NB2317_2324.out BK2317.out) hb); replace BK2324 := Aside0.mk (blk_below (g := gb2324) (o := .cells #[.int .i64 t2318, .string t2319, .string t2320, .int .i64 t2321, .int .i64 t2322] 69 (0, 0)) (bp_ BK2324.out) hb); replace HB := ch_ HB hb; (try clear hb); (try clear hb2); (try clear hk); (try clear hi)) | ((with_reducible refine gate_dst (N := 18) rfl ?_); refine box_event ?hg (N := 18) ?hd (cs := #[.int .i64 0, .string (⟨#[]⟩ : ByteArray), .string (⟨#[]⟩ : ByteArray), .int .i64 0, .int .i64 0]) (t := 69) ?hr ?_; (case hd => rfl); (case hg => rfl); (case hr => first | (go_simp; done) | (go_simp; rfl)); intro gb2331 hg w47 hbox hb; have BK2331 := Aside0.mk (hbox); have GW2331 := cz_ HB hg; have GE2331 := cz_ HB hg; have NB2294_2331 := cn_ BK2294 hg; have NB2331_2294 := cm_ BK2294 hg; have NB2302_2331 := cn_ BK2302 hg; have NB2331_2302 := cm_ BK2302 hg; have NB2310_2331 := cn_ BK2310 hg; have NB2331_2310 := cm_ BK2310 hg; have NB2317_2331 := cn_ BK2317 hg; have NB2331_2317 := cm_ BK2317 hg; have NB2324_2331 := cn_ BK2324 hg; have NB2331_2324 := cm_ BK2324 hg; replace HO2289 := Aside0.mk (Kd.R_below (Kd.R_elderB (rq_ HO2289.out) gb2331 (Nat.le_of_eq hg.symm)) hb); replace HO2299 := Aside0.mk (Kd.R_below (Kd.R_elderB (rq_ HO2299.out) gb2331 (Nat.le_of_eq hg.symm)) hb); replace HO2307 := Aside0.mk (Kd.R_below (Kd.R_elderB (rq_ HO2307.out) gb2331 (Nat.le_of_eq hg.symm)) hb); replace HO2315 := Aside0.mk (Kd.R_below (Kd.R_elderB (rq_ HO2315.out) gb2331 (Nat.le_of_eq hg.symm)) hb); replace BK2294 := cb_ BK2294 hb; replace BK2302 := cb_ BK2302 hb; replace BK2310 := cb_ BK2310 hb; replace BK2317 := cb_ BK2317 hb; replace BK2324 := cb_ BK2324 hb; replace HB := ch_ HB hb; clear hb hbox hg; have hnb48 := NB2331_2294.out; have hnc48 := NB2294_2331.out; have hnb49 := NB2331_2302.out; have hnc49 := NB2302_2331.out; have hnb50 := NB2331_2310.out; have hnc50 := NB2310_2331.out; have hnb51 := NB2331_2317.out; have hnc51 := NB2317_2331.out; have hnb52 := NB2331_2324.out; have hnc52 := NB2324_2331.out; have hcz53_0 : w47.cell? ⟨gb2331, 0, none⟩ = some (.int .i64 0) := bc_ BK2331 0; have hcz53_1 : w47.cell? ⟨gb2331, 1, none⟩ = some (.string (⟨#[]⟩ : ByteArray)) := bc_ BK2331 1; have hcz53_2 : w47.cell? ⟨gb2331, 2, none⟩ = some (.string (⟨#[]⟩ : ByteArray)) := bc_ BK2331 2; have hcz53_3 : w47.cell? ⟨gb2331, 3, none⟩ = some (.int .i64 0) := bc_ BK2331 3; have hcz53_4 : w47.cell? ⟨gb2331, 4, none⟩ = some (.int .i64 0) := bc_ BK2331 4; have hfz53_0 := blk_frozen BK2331.out 0; have hfz53_1 := blk_frozen BK2331.out 1; have hfz53_2 := blk_frozen BK2331.out 2; have hfz53_3 := blk_frozen BK2331.out 3; have hfz53_4 := blk_frozen BK2331.out 4) | ((with_reducible refine gate_callee (f := 40) rfl ?_); refine goesL_ (some 82) rfl rfl Try.func40 (by kernel_rfl) rfl #[.slice A0 l0.length c0] rfl sm_ ?_; (with_reducible refine (spec_DrawLatest.calls kj2 _ _ l0 t2332 t2333 t2334 t2337 _ ?side1 ?side2 A11.out).mono ?_); (case side1 => exact Kd.C_below HR0.out (hb_ HB.out)); (case side2 => exact HC0.out); rintro e w54 ⟨v2335, rfl, ho0, hb⟩; refine ⟨_, rfl, ?_⟩; have HO2336 := Aside0.mk (Kd.R_lower (Kd.R_newB (Kd.R_newB (Kd.R_new' (Kd.R_new' (Kd.R_new' (Kd.R_new' ho0 (Kd.R_lt (qh21_))) (Kd.R_lt (qh20_))) (Kd.R_lt (qh19_))) (Kd.R_lt (qh18_))) (g := gb2324) (o := .cells #[.int .i64 t2318, .string t2319, .string t2320, .int .i64 t2321, .int .i64 t2322] 69 (0, 0)) (bf_ NB2324_2331.out BK2324.out)) (g := gb2331) (o := .cells #[.int .i64 t2325, .string t2326, .string t2327, .int .i64 t2328, .int .i64 t2329] 69 (0, 0)) (bp_ BK2331.out)) (below_size (hb_ HB.out))); replace HO2289 := Aside0.mk (Kd.R_elder' (qh21_) (Kd.R_base ho0) hb); replace HO2299 := Aside0.mk (Kd.R_elder' (qh20_) (Kd.R_base ho0) hb); replace HO2307 := Aside0.mk (Kd.R_elder' (qh19_) (Kd.R_base ho0) hb); replace HO2315 := Aside0.mk (Kd.R_elder' (qh18_) (Kd.R_base ho0) hb); replace BK2294 := Aside0.mk (blk_below (g := gb2294) (o := .cells #[.int .i64 t2285, .int .i64 t2286, .slice Ao18 t2287.length co18] 57 (0, 0)) (bf_ NB2294_2331.out BK2294.out) hb); replace BK2302 := Aside0.mk (blk_below (g := gb2302) (o := .cells #[.int .i64 t2295, .int .i64 t2296, .slice Ao23 t2297.length co23] 57 (0, 0)) (bf_ NB2302_2331.out BK2302.out) hb); replace BK2310 := Aside0.mk (blk_below (g := gb2310) (o := .cells #[.int .i64 t2303, .int .i64 t2304, .slice Ao30 t2305.length co30] 57 (0, 0)) (bf_ NB2310_2331.out BK2310.out) hb); replace BK2317 := Aside0.mk (blk_below (g := gb2317) (o := .cells #[.int .i64 t2311, .int .i64 t2312, .slice Ao37 t2313.length co37] 57 (0, 0)) (bf_ NB2317_2331.out BK2317.out) hb); replace BK2324 := Aside0.mk (blk_below (g := gb2324) (o := .cells #[.int .i64 t2318, .string t2319, .string t2320, .int .i64 t2321, .int .i64 t2322] 69 (0, 0)) (bf_ NB2324_2331.out BK2324.out) hb); replace BK2331 := Aside0.mk (blk_below (g := gb2331) (o := .cells #[.int .i64 t2325, .string t2326, .string t2327, .int .i64 t2328, .int .i64 t2329] 69 (0, 0)) (bp_ BK2331.out) hb); replace HB := ch_ HB hb; (try clear hb); (try clear hb2); (try clear hk); (try clear hi); (try clear ho0)) | ((with_reducible refine gate_dst (N := 20) rfl ?_); refine box_event ?hg (N := 20) ?hd (cs := #[.int .i64 0, .int .i64 0, .slice none 0 0]) (t := 57) ?hr ?_; (case hd => rfl); (case hg => rfl); (case hr => first | (go_simp; done) | (go_simp; rfl)); intro gb2338 hg w55 hbox hb; have BK2338 := Aside0.mk (hbox); have GW2338 := cz_ HB hg; have GE2338 := cz_ HB hg; have NB2294_2338 := cn_ BK2294 hg; have NB2338_2294 := cm_ BK2294 hg; have NB2302_2338 := cn_ BK2302 hg; have NB2338_2302 := cm_ BK2302 hg; have NB2310_2338 := cn_ BK2310 hg; have NB2338_2310 := cm_ BK2310 hg; have NB2317_2338 := cn_ BK2317 hg; have NB2338_2317 := cm_ BK2317 hg; have NB2324_2338 := cn_ BK2324 hg; have NB2338_2324 := cm_ BK2324 hg; have NB2331_2338 := cn_ BK2331 hg; have NB2338_2331 := cm_ BK2331 hg; replace HO2289 := cr_ HO2289 hb; replace HO2299 := cr_ HO2299 hb; replace HO2307 := cr_ HO2307 hb; replace HO2315 := cr_ HO2315 hb; replace HO2336 := cr_ HO2336 hb; replace BK2294 := cb_ BK2294 hb; replace BK2302 := cb_ BK2302 hb; replace BK2310 := cb_ BK2310 hb; replace BK2317 := cb_ BK2317 hb; replace BK2324 := cb_ BK2324 hb; replace BK2331 := cb_ BK2331 hb; replace HB := ch_ HB hb; clear hb hbox hg; have hnb56 := NB2338_2294.out; have hnc56 := NB2294_2338.out; have hnb57 := NB2338_2302.out; have hnc57 := NB2302_2338.out; have hnb58 := NB2338_2310.out; have hnc58 := NB2310_2338.out; have hnb59 := NB2338_2317.out; have hnc59 := NB2317_2338.out; have hnb60 := NB2338_2324.out; have hnc60 := NB2324_2338.out; have hnb61 := NB2338_2331.out; have hnc61 := NB2331_2338.out; have hcz62_0 : w55.cell? ⟨gb2338, 0, none⟩ = some (.int .i64 0) := bc_ BK2338 0; have hcz62_1 : w55.cell? ⟨gb2338, 1, none⟩ = some (.int .i64 0) := bc_ BK2338 1; have hcz62_2 : w55.cell? ⟨gb2338, 2, none⟩ = some (.slice none 0 0) := bc_ BK2338 2; have hfz62_0 := blk_frozen BK2338.out 0; have hfz62_1 := blk_frozen BK2338.out 1; have hfz62_2 := blk_frozen BK2338.out 2; obtain ⟨Ao63, co63, eo63⟩ := Kd.R_slice HO2336.out; subst eo63) | ((with_reducible refine gate_callee (f := 41) rfl ?_); refine goesL_ (some 88) rfl rfl Try.func41 (by kernel_rfl) rfl #[.agg #[.int .i64 t2332, .int .i64 t2333, .slice Ao63 t2334.length co63], .string t2337] rfl sm_ ?_; (with_reducible refine (impl_Latest.calls kj2 t2332 t2333 _ _ t2334 t2337 t2339 t2340 t2341 t2342 t2343 t2344 _ ?side1 ?side2 A12.out).mono ?_); (case side1 => refine (Kd.R_reads' (e := 69) (base := w.heap.size) (ok := fun k_ => ((((((True ∧ some k_ ≠ (.slice Ao18 t2287.length co18 : Value).ownBlock) ∧ some k_ ≠ (.slice Ao23 t2297.length co23 : Value).ownBlock) ∧ some k_ ≠ (.slice Ao30 t2305.length co30 : Value).ownBlock) ∧ some k_ ≠ (.slice Ao37 t2313.length co37 : Value).ownBlock) ∧ k_ ≠ gb2324) ∧ k_ ≠ gb2331)) (n := t2334.length) (c := co63) ?_).2.2; exact (rk_ HO2336.out BK2338.out)); (case side2 => exact (Kd.R_reads' HO2336.out).2.1); rintro e w64 ⟨rfl, hb⟩; refine ⟨_, rfl, ?_⟩; replace HO2289 := Aside0.mk (Kd.R_below (rk_ HO2289.out BK2338.out) hb); replace HO2299 := Aside0.mk (Kd.R_below (rk_ HO2299.out BK2338.out) hb); replace HO2307 := Aside0.mk (Kd.R_below (rk_ HO2307.out BK2338.out) hb); replace HO2315 := Aside0.mk (Kd.R_below (rk_ HO2315.out BK2338.out) hb); replace HO2336 := Aside0.mk (Kd.R_below (rk_ HO2336.out BK2338.out) hb); replace BK2294 := Aside0.mk (blk_below (g := gb2294) (o := .cells #[.int .i64 t2285, .int .i64 t2286, .slice Ao18 t2287.length co18] 57 (0, 0)) (bf_ NB2294_2338.out BK2294.out) hb); replace BK2302 := Aside0.mk (blk_below (g := gb2302) (o := .cells #[.int .i64 t2295, .int .i64 t2296, .slice Ao23 t2297.length co23] 57 (0, 0)) (bf_ NB2302_2338.out BK2302.out) hb); replace BK2310 := Aside0.mk (blk_below (g := gb2310) (o := .cells #[.int .i64 t2303, .int .i64 t2304, .slice Ao30 t2305.length co30] 57 (0, 0)) (bf_ NB2310_2338.out BK2310.out) hb); replace BK2317 := Aside0.mk (blk_below (g := gb2317) (o := .cells #[.int .i64 t2311, .int .i64 t2312, .slice Ao37 t2313.length co37] 57 (0, 0)) (bf_ NB2317_2338.out BK2317.out) hb); replace BK2324 := Aside0.mk (blk_below (g := gb2324) (o := .cells #[.int .i64 t2318, .string t2319, .string t2320, .int .i64 t2321, .int .i64 t2322] 69 (0, 0)) (bf_ NB2324_2338.out BK2324.out) hb); replace BK2331 := Aside0.mk (blk_below (g := gb2331) (o := .cells #[.int .i64 t2325, .string t2326, .string t2327, .int .i64 t2328, .int .i64 t2329] 69 (0, 0)) (bf_ NB2331_2338.out BK2331.out) hb); replace BK2338 := Aside0.mk (blk_below (g := gb2338) (o := .cells #[.int .i64 t2332, .int .i64 t2333, .slice Ao63 t2334.length co63] 57 (0, 0)) (bp_ BK2338.out) hb); replace HB := ch_ HB hb; (try clear hb); (try clear hb2); (try clear hk); (try clear hi)) | ((with_reducible refine gate_dst (N := 22) rfl ?_); refine box_event ?hg (N := 22) ?hd (cs := #[.int .i64 0, .string (⟨#[]⟩ : ByteArray), .string (⟨#[]⟩ : ByteArray), .int .i64 0, .int .i64 0]) (t := 69) ?hr ?_; (case hd => rfl); (case hg => rfl); (case hr => first | (go_simp; done) | (go_simp; rfl)); intro gb2345 hg w65 hbox hb; have BK2345 := Aside0.mk (hbox); have GW2345 := cz_ HB hg; have GE2345 := cz_ HB hg; have NB2294_2345 := cn_ BK2294 hg; have NB2345_2294 := cm_ BK2294 hg; have NB2302_2345 := cn_ BK2302 hg; have NB2345_2302 := cm_ BK2302 hg; have NB2310_2345 := cn_ BK2310 hg; have NB2345_2310 := cm_ BK2310 hg; have NB2317_2345 := cn_ BK2317 hg; have NB2345_2317 := cm_ BK2317 hg; have NB2324_2345 := cn_ BK2324 hg; have NB2345_2324 := cm_ BK2324 hg; have NB2331_2345 := cn_ BK2331 hg; have NB2345_2331 := cm_ BK2331 hg; have NB2338_2345 := cn_ BK2338 hg; have NB2345_2338 := cm_ BK2338 hg; replace HO2289 := Aside0.mk (Kd.R_below (Kd.R_elderB (rq_ HO2289.out) gb2345 (Nat.le_of_eq hg.symm)) hb); replace HO2299 := Aside0.mk (Kd.R_below (Kd.R_elderB (rq_ HO2299.out) gb2345 (Nat.le_of_eq hg.symm)) hb); replace HO2307 := Aside0.mk (Kd.R_below (Kd.R_elderB (rq_ HO2307.out) gb2345 (Nat.le_of_eq hg.symm)) hb); replace HO2315 := Aside0.mk (Kd.R_below (Kd.R_elderB (rq_ HO2315.out) gb2345 (Nat.le_of_eq hg.symm)) hb); replace HO2336 := Aside0.mk (Kd.R_below (Kd.R_elderB (rq_ HO2336.out) gb2345 (Nat.le_of_eq hg.symm)) hb); replace BK2294 := cb_ BK2294 hb; replace BK2302 := cb_ BK2302 hb; replace BK2310 := cb_ BK2310 hb; replace BK2317 := cb_ BK2317 hb; replace BK2324 := cb_ BK2324 hb; replace BK2331 := cb_ BK2331 hb; replace BK2338 := cb_ BK2338 hb; replace HB := ch_ HB hb; clear hb hbox hg; have hnb66 := NB2345_2294.out; have hnc66 := NB2294_2345.out; have hnb67 := NB2345_2302.out; have hnc67 := NB2302_2345.out; have hnb68 := NB2345_2310.out; have hnc68 := NB2310_2345.out; have hnb69 := NB2345_2317.out; have hnc69 := NB2317_2345.out; have hnb70 := NB2345_2324.out; have hnc70 := NB2324_2345.out; have hnb71 := NB2345_2331.out; have hnc71 := NB2331_2345.out; have hnb72 := NB2345_2338.out; have hnc72 := NB2338_2345.out; have hcz73_0 : w65.cell? ⟨gb2345, 0, none⟩ = some (.int .i64 0) := bc_ BK2345 0; have hcz73_1 : w65.cell? ⟨gb2345, 1, none⟩ = some (.string (⟨#[]⟩ : ByteArray)) := bc_ BK2345 1; have hcz73_2 : w65.cell? ⟨gb2345, 2, none⟩ = some (.string (⟨#[]⟩ : ByteArray)) := bc_ BK2345 2; have hcz73_3 : w65.cell? ⟨gb2345, 3, none⟩ = some (.int .i64 0) := bc_ BK2345 3; have hcz73_4 : w65.cell? ⟨gb2345, 4, none⟩ = some (.int .i64 0) := bc_ BK2345 4; have hfz73_0 := blk_frozen BK2345.out 0; have hfz73_1 := blk_frozen BK2345.out 1; have hfz73_2 := blk_frozen BK2345.out 2; have hfz73_3 := blk_frozen BK2345.out 3; have hfz73_4 := blk_frozen BK2345.out 4; have hcz74_0 : w65.cell? ⟨gb2338, 0, none⟩ = some (.int .i64 t2332) := bc_ BK2338 0; have hcz74_1 : w65.cell? ⟨gb2338, 1, none⟩ = some (.int .i64 t2333) := bc_ BK2338 1; have hcz74_2 : w65.cell? ⟨gb2338, 2, none⟩ = some (.slice Ao63 t2334.length co63) := bc_ BK2338 2; have hfz74_0 := blk_frozen BK2338.out 0; have hfz74_1 := blk_frozen BK2338.out 1; have hfz74_2 := blk_frozen BK2338.out 2) | ((with_reducible refine gate_callee (f := 42) rfl ?_); refine goesL_ (some 94) rfl rfl Try.func42 (by kernel_rfl) rfl #[.agg #[.int .i64 t2332, .int .i64 t2333, .slice Ao63 t2334.length co63], .string t2337] rfl sm_ ?_; (with_reducible refine (spec_Latest.calls kj2 t2332 t2333 _ _ t2334 t2337 t2346 t2347 t2348 t2349 t2350 t2351 _ ?side1 ?side2 A13.out).mono ?_); (case side1 => refine (Kd.R_reads' (e := 69) (base := w.heap.size) (ok := fun k_ => (((((((True ∧ some k_ ≠ (.slice Ao18 t2287.length co18 : Value).ownBlock) ∧ some k_ ≠ (.slice Ao23 t2297.length co23 : Value).ownBlock) ∧ some k_ ≠ (.slice Ao30 t2305.length co30 : Value).ownBlock) ∧ some k_ ≠ (.slice Ao37 t2313.length co37 : Value).ownBlock) ∧ k_ ≠ gb2324) ∧ k_ ≠ gb2331) ∧ k_ ≠ gb2345)) (n := t2334.length) (c := co63) ?_).2.2; exact (qh17_)); (case side2 => exact (Kd.R_reads' HO2336.out).2.1); rintro e w75 ⟨rfl, hb⟩; refine ⟨_, rfl, ?_⟩; replace HO2289 := Aside0.mk (Kd.R_below (by (with_reducible repeat (first | apply Kd.R_alloc | apply Kd.R_drewN | apply Kd.R_drew)); exact (Kd.R_mono (Kd.R_far (p := ⟨gb2345, 4, none⟩) (Kd.R_far (p := ⟨gb2345, 3, none⟩) (Kd.R_far (p := ⟨gb2345, 2, none⟩) (Kd.R_far (p := ⟨gb2345, 1, none⟩) (Kd.R_far (p := ⟨gb2345, 0, none⟩) (Kd.R_mono HO2289.out (fun k_ hk => (⟨hk, hk.2⟩ : _ ∧ k_ ≠ gb2345))) (fun _ hk => hk.2) (.int .i64 t2339)) (fun _ hk => hk.2) (.string t2340)) (fun _ hk => hk.2) (.string t2341)) (fun _ hk => hk.2) (.int .i64 t2342)) (fun _ hk => hk.2) (.int .i64 t2343)) (fun _ h_ => h_.1))) hb); replace HO2299 := Aside0.mk (Kd.R_below (by (with_reducible repeat (first | apply Kd.R_alloc | apply Kd.R_drewN | apply Kd.R_drew)); exact (Kd.R_mono (Kd.R_far (p := ⟨gb2345, 4, none⟩) (Kd.R_far (p := ⟨gb2345, 3, none⟩) (Kd.R_far (p := ⟨gb2345, 2, none⟩) (Kd.R_far (p := ⟨gb2345, 1, none⟩) (Kd.R_far (p := ⟨gb2345, 0, none⟩) (Kd.R_mono HO2299.out (fun k_ hk => (⟨hk, hk.2⟩ : _ ∧ k_ ≠ gb2345))) (fun _ hk => hk.2) (.int .i64 t2339)) (fun _ hk => hk.2) (.string t2340)) (fun _ hk => hk.2) (.string t2341)) (fun _ hk => hk.2) (.int .i64 t2342)) (fun _ hk => hk.2) (.int .i64 t2343)) (fun _ h_ => h_.1))) hb); replace HO2307 := Aside0.mk (Kd.R_below (by (with_reducible repeat (first | apply Kd.R_alloc | apply Kd.R_drewN | apply Kd.R_drew)); exact (Kd.R_mono (Kd.R_far (p := ⟨gb2345, 4, none⟩) (Kd.R_far (p := ⟨gb2345, 3, none⟩) (Kd.R_far (p := ⟨gb2345, 2, none⟩) (Kd.R_far (p := ⟨gb2345, 1, none⟩) (Kd.R_far (p := ⟨gb2345, 0, none⟩) (Kd.R_mono HO2307.out (fun k_ hk => (⟨hk, hk.2⟩ : _ ∧ k_ ≠ gb2345))) (fun _ hk => hk.2) (.int .i64 t2339)) (fun _ hk => hk.2) (.string t2340)) (fun _ hk => hk.2) (.string t2341)) (fun _ hk => hk.2) (.int .i64 t2342)) (fun _ hk => hk.2) (.int .i64 t2343)) (fun _ h_ => h_.1))) hb); replace HO2315 := Aside0.mk (Kd.R_below (by (with_reducible repeat (first | apply Kd.R_alloc | apply Kd.R_drewN | apply Kd.R_drew)); exact (Kd.R_mono (Kd.R_far (p := ⟨gb2345, 4, none⟩) (Kd.R_far (p := ⟨gb2345, 3, none⟩) (Kd.R_far (p := ⟨gb2345, 2, none⟩) (Kd.R_far (p := ⟨gb2345, 1, none⟩) (Kd.R_far (p := ⟨gb2345, 0, none⟩) (Kd.R_mono HO2315.out (fun k_ hk => (⟨hk, hk.2⟩ : _ ∧ k_ ≠ gb2345))) (fun _ hk => hk.2) (.int .i64 t2339)) (fun _ hk => hk.2) (.string t2340)) (fun _ hk => hk.2) (.string t2341)) (fun _ hk => hk.2) (.int .i64 t2342)) (fun _ hk => hk.2) (.int .i64 t2343)) (fun _ h_ => h_.1))) hb); replace HO2336 := Aside0.mk (Kd.R_below (qh17_) hb); replace BK2294 := Aside0.mk (blk_below (g := gb2294) (o := .cells #[.int .i64 t2285, .int .i64 t2286, .slice Ao18 t2287.length co18] 57 (0, 0)) (bf_ NB2294_2345.out BK2294.out) hb); replace BK2302 := Aside0.mk (blk_below (g := gb2302) (o := .cells #[.int .i64 t2295, .int .i64 t2296, .slice Ao23 t2297.length co23] 57 (0, 0)) (bf_ NB2302_2345.out BK2302.out) hb); replace BK2310 := Aside0.mk (blk_below (g := gb2310) (o := .cells #[.int .i64 t2303, .int .i64 t2304, .slice Ao30 t2305.length co30] 57 (0, 0)) (bf_ NB2310_2345.out BK2310.out) hb); replace BK2317 := Aside0.mk (blk_below (g := gb2317) (o := .cells #[.int .i64 t2311, .int .i64 t2312, .slice Ao37 t2313.length co37] 57 (0, 0)) (bf_ NB2317_2345.out BK2317.out) hb); replace BK2324 := Aside0.mk (blk_below (g := gb2324) (o := .cells #[.int .i64 t2318, .string t2319, .string t2320, .int .i64 t2321, .int .i64 t2322] 69 (0, 0)) (bf_ NB2324_2345.out BK2324.out) hb); replace BK2331 := Aside0.mk (blk_below (g := gb2331) (o := .cells #[.int .i64 t2325, .string t2326, .string t2327, .int .i64 t2328, .int .i64 t2329] 69 (0, 0)) (bf_ NB2331_2345.out BK2331.out) hb); replace BK2338 := Aside0.mk (blk_below (g := gb2338) (o := .cells #[.int .i64 t2332, .int .i64 t2333, .slice Ao63 t2334.length co63] 57 (0, 0)) (bf_ NB2338_2345.out BK2338.out) hb); replace BK2345 := Aside0.mk (blk_below (g := gb2345) (o := .cells #[.int .i64 t2339, .string t2340, .string t2341, .int .i64 t2342, .int .i64 t2343] 69 (0, 0)) (bp_ BK2345.out) hb); replace HB := ch_ HB hb; (try clear hb); (try clear hb2); (try clear hk); (try clear hi)) | ((with_reducible refine gate_dst (N := 24) rfl ?_); refine box_event ?hg (N := 24) ?hd (cs := #[.int .i64 0, .string (⟨#[]⟩ : ByteArray), .string (⟨#[]⟩ : ByteArray), .int .i64 0, .int .i64 0]) (t := 69) ?hr ?_; (case hd => rfl); (case hg => rfl); (case hr => first | (go_simp; done) | (go_simp; rfl)); intro gb2352 hg w76 hbox hb; have BK2352 := Aside0.mk (hbox); have GW2352 := cz_ HB hg; have GE2352 := cz_ HB hg; have NB2294_2352 := cn_ BK2294 hg; have NB2352_2294 := cm_ BK2294 hg; have NB2302_2352 := cn_ BK2302 hg; have NB2352_2302 := cm_ BK2302 hg; have NB2310_2352 := cn_ BK2310 hg; have NB2352_2310 := cm_ BK2310 hg; have NB2317_2352 := cn_ BK2317 hg; have NB2352_2317 := cm_ BK2317 hg; have NB2324_2352 := cn_ BK2324 hg; have NB2352_2324 := cm_ BK2324 hg; have NB2331_2352 := cn_ BK2331 hg; have NB2352_2331 := cm_ BK2331 hg; have NB2338_2352 := cn_ BK2338 hg; have NB2352_2338 := cm_ BK2338 hg; have NB2345_2352 := cn_ BK2345 hg; have NB2352_2345 := cm_ BK2345 hg; replace HO2289 := Aside0.mk (Kd.R_below (Kd.R_elderB (rq_ HO2289.out) gb2352 (Nat.le_of_eq hg.symm)) hb); replace HO2299 := Aside0.mk (Kd.R_below (Kd.R_elderB (rq_ HO2299.out) gb2352 (Nat.le_of_eq hg.symm)) hb); replace HO2307 := Aside0.mk (Kd.R_below (Kd.R_elderB (rq_ HO2307.out) gb2352 (Nat.le_of_eq hg.symm)) hb); replace HO2315 := Aside0.mk (Kd.R_below (Kd.R_elderB (rq_ HO2315.out) gb2352 (Nat.le_of_eq hg.symm)) hb); replace HO2336 := Aside0.mk (Kd.R_below (Kd.R_elderB (rq_ HO2336.out) gb2352 (Nat.le_of_eq hg.symm)) hb); replace BK2294 := cb_ BK2294 hb; replace BK2302 := cb_ BK2302 hb; replace BK2310 := cb_ BK2310 hb; replace BK2317 := cb_ BK2317 hb; replace BK2324 := cb_ BK2324 hb; replace BK2331 := cb_ BK2331 hb; replace BK2338 := cb_ BK2338 hb; replace BK2345 := cb_ BK2345 hb; replace HB := ch_ HB hb; clear hb hbox hg; have hnb77 := NB2352_2294.out; have hnc77 := NB2294_2352.out; have hnb78 := NB2352_2302.out; have hnc78 := NB2302_2352.out; have hnb79 := NB2352_2310.out; have hnc79 := NB2310_2352.out; have hnb80 := NB2352_2317.out; have hnc80 := NB2317_2352.out; have hnb81 := NB2352_2324.out; have hnc81 := NB2324_2352.out; have hnb82 := NB2352_2331.out; have hnc82 := NB2331_2352.out; have hnb83 := NB2352_2338.out; have hnc83 := NB2338_2352.out; have hnb84 := NB2352_2345.out; have hnc84 := NB2345_2352.out; have hcz85_0 : w76.cell? ⟨gb2352, 0, none⟩ = some (.int .i64 0) := bc_ BK2352 0; have hcz85_1 : w76.cell? ⟨gb2352, 1, none⟩ = some (.string (⟨#[]⟩ : ByteArray)) := bc_ BK2352 1; have hcz85_2 : w76.cell? ⟨gb2352, 2, none⟩ = some (.string (⟨#[]⟩ : ByteArray)) := bc_ BK2352 2; have hcz85_3 : w76.cell? ⟨gb2352, 3, none⟩ = some (.int .i64 0) := bc_ BK2352 3; have hcz85_4 : w76.cell? ⟨gb2352, 4, none⟩ = some (.int .i64 0) := bc_ BK2352 4; have hfz85_0 := blk_frozen BK2352.out 0; have hfz85_1 := blk_frozen BK2352.out 1; have hfz85_2 := blk_frozen BK2352.out 2; have hfz85_3 := blk_frozen BK2352.out 3; have hfz85_4 := blk_frozen BK2352.out 4))
   (try simp only [Act.put, List.setIfInBounds_toArray, List.set_cons_zero, List.set_cons_succ])
   go_cut [137] (fun v137 wc => ∃ (kq : Nat) (x137_13 : Bool), v137 = .bool x137_13 ∧ Aside0 (laws_FnRows.j1 kq t2290 t2291 t2300 t2301 x137_13 t2285 t2286 t2287 t2295 t2296 t2297 = some r) ∧ Aside0 (kq ≤ kj2) ∧ Aside0 (Kd.R k_Item 69 wc w.heap.size (fun k_ => some k_ ≠ ((.slice Ao23 t2297.length co23) : Value).ownBlock ∧ some k_ ≠ ((.slice Ao30 t2305.length co30) : Value).ownBlock ∧ some k_ ≠ ((.slice Ao37 t2313.length co37) : Value).ownBlock ∧ some k_ ≠ ((.slice Ao63 t2334.length co63) : Value).ownBlock ∧ k_ ≠ gb2324 ∧ k_ ≠ gb2331 ∧ k_ ≠ gb2345 ∧ k_ ≠ gb2352) (.slice Ao18 t2287.length co18) t2287) ∧ Aside0 (Kd.R k_Item 69 wc w.heap.size (fun k_ => some k_ ≠ ((.slice Ao18 t2287.length co18) : Value).ownBlock ∧ some k_ ≠ ((.slice Ao30 t2305.length co30) : Value).ownBlock ∧ some k_ ≠ ((.slice Ao37 t2313.length co37) : Value).ownBlock ∧ some k_ ≠ ((.slice Ao63 t2334.length co63) : Value).ownBlock ∧ k_ ≠ gb2324 ∧ k_ ≠ gb2331 ∧ k_ ≠ gb2345 ∧ k_ ≠ gb2352) (.slice Ao23 t2297.length co23) t2297) ∧ Aside0 (Kd.R k_Item 69 wc w.heap.size (fun k_ => some k_ ≠ ((.slice Ao18 t2287.length co18) : Value).ownBlock ∧ some k_ ≠ ((.slice Ao23 t2297.length co23) : Value).ownBlock ∧ some k_ ≠ ((.slice Ao37 t2313.length co37) : Value).ownBlock ∧ some k_ ≠ ((.slice Ao63 t2334.length co63) : Value).ownBlock ∧ k_ ≠ gb2324 ∧ k_ ≠ gb2331 ∧ k_ ≠ gb2345 ∧ k_ ≠ gb2352) (.slice Ao30 t2305.length co30) t2305) ∧ Aside0 (Kd.R k_Item 69 wc w.heap.size (fun k_ => some k_ ≠ ((.slice Ao18 t2287.length co18) : Value).ownBlock ∧ some k_ ≠ ((.slice Ao23 t2297.length co23) : Value).ownBlock ∧ some k_ ≠ ((.slice Ao30 t2305.length co30) : Value).ownBlock ∧ some k_ ≠ ((.slice Ao63 t2334.length co63) : Value).ownBlock ∧ k_ ≠ gb2324 ∧ k_ ≠ gb2331 ∧ k_ ≠ gb2345 ∧ k_ ≠ gb2352) (.slice Ao37 t2313.length co37) t2313) ∧ Aside0 (Kd.R k_Item 69 wc w.heap.size (fun k_ => some k_ ≠ ((.slice Ao18 t2287.length co18) : Value).ownBlock ∧ some k_ ≠ ((.slice Ao23 t2297.length co23) : Value).ownBlock ∧ some k_ ≠ ((.slice Ao30 t2305.length co30) : Value).ownBlock ∧ some k_ ≠ ((.slice Ao37 t2313.length co37) : Value).ownBlock ∧ k_ ≠ gb2324 ∧ k_ ≠ gb2331 ∧ k_ ≠ gb2345 ∧ k_ ≠ gb2352) (.slice Ao63 t2334.length co63) t2334) ∧ Aside0 (wc.heap[gb2294]? = some (.cells #[.int .i64 t2285, .int .i64 t2286, (.slice Ao18 t2287.length co18)] 57 (0, 0))) ∧ Aside0 (wc.heap[gb2302]? = some (.cells #[.int .i64 t2295, .int .i64 t2296, (.slice Ao23 t2297.length co23)] 57 (0, 0))) ∧ Aside0 (wc.heap[gb2310]? = some (.cells #[.int .i64 t2303, .int .i64 t2304, (.slice Ao30 t2305.length co30)] 57 (0, 0))) ∧ Aside0 (wc.heap[gb2317]? = some (.cells #[.int .i64 t2311, .int .i64 t2312, (.slice Ao37 t2313.length co37)] 57 (0, 0))) ∧ Aside0 (wc.heap[gb2324]? = some (.cells #[.int .i64 t2318, .string t2319, .string t2320, .int .i64 t2321, .int .i64 t2322] 69 (0, 0))) ∧ Aside0 (wc.heap[gb2331]? = some (.cells #[.int .i64 t2325, .string t2326, .string t2327, .int .i64 t2328, .int .i64 t2329] 69 (0, 0))) ∧ Aside0 (wc.heap[gb2338]? = some (.cells #[.int .i64 t2332, .int .i64 t2333, (.slice Ao63 t2334.length co63)] 57 (0, 0))) ∧ Aside0 (wc.heap[gb2345]? = some (.cells #[.int .i64 t2339, .string t2340, .string t2341, .int .i64 t2342, .int .i64 t2343] 69 (0, 0))) ∧ Aside0 (wc.heap[gb2352]? = some (.cells #[.int .i64 t2346, .string t2347, .string t2348, .int .i64 t2349, .int .i64 t2350] 69 (0, 0))) ∧ Aside0 (Below w.heap.size w wc))
   case first =>
    as_aux_lemma =>
    have H := HC14.out
    clear HC14
    by_cases c86 : (t2301 != t2309) = true
    ·
     as_aux_lemma =>
     rw [if_pos c86] at H
     have c86b0 : (t2301 != t2309) = true := c86
     (try (have c86b1 : decide (t2301 = t2309) = false := by simpa using c86))
     (try (have c86b2 : (t2301 == t2309) = false := by simpa using c86))
     (try (have c86b3 : ¬ (t2301 = t2309) := by simpa using c86))
     (try (have c86b4 : (!(t2301 == t2309)) = true := (show ∀ a b : Bool, (a != b) = true → (!(a == b)) = true by decide) _ _ c86))
     clear c86
     (first | rw [c86b0] | (simp only [i64_w, i32_w]; rw [c86b0]) | rw [c86b4] | rw [c86b3] | skip)
     have H' := Aside0.mk H
     clear H
     try go_wp2
     obtain ⟨w87, qe_⟩ : ∃ x_, x_ = (((((w76.setCell ⟨gb2352, 0, none⟩ (.int .i64 t2346)).setCell ⟨gb2352, 1, none⟩ (.string t2347)).setCell ⟨gb2352, 2, none⟩ (.string t2348)).setCell ⟨gb2352, 3, none⟩ (.int .i64 t2349)).setCell ⟨gb2352, 4, none⟩ (.int .i64 t2350)) := ⟨_, rfl⟩
     rw [← qe_]
     replace HO2289 : Aside0 (Kd.R k_Item 69 w87 w.heap.size (fun k_ => some k_ ≠ (.slice Ao23 t2297.length co23 : Value).ownBlock ∧ some k_ ≠ (.slice Ao30 t2305.length co30 : Value).ownBlock ∧ some k_ ≠ (.slice Ao37 t2313.length co37 : Value).ownBlock ∧ some k_ ≠ (.slice Ao63 t2334.length co63 : Value).ownBlock ∧ k_ ≠ gb2324 ∧ k_ ≠ gb2331 ∧ k_ ≠ gb2345 ∧ k_ ≠ gb2352) (.slice Ao18 t2287.length co18) t2287) := ⟨qh4_⟩
     replace HO2299 : Aside0 (Kd.R k_Item 69 w87 w.heap.size (fun k_ => some k_ ≠ (.slice Ao18 t2287.length co18 : Value).ownBlock ∧ some k_ ≠ (.slice Ao30 t2305.length co30 : Value).ownBlock ∧ some k_ ≠ (.slice Ao37 t2313.length co37 : Value).ownBlock ∧ some k_ ≠ (.slice Ao63 t2334.length co63 : Value).ownBlock ∧ k_ ≠ gb2324 ∧ k_ ≠ gb2331 ∧ k_ ≠ gb2345 ∧ k_ ≠ gb2352) (.slice Ao23 t2297.length co23) t2297) := ⟨qh3_⟩
     replace HO2307 : Aside0 (Kd.R k_Item 69 w87 w.heap.size (fun k_ => some k_ ≠ (.slice Ao18 t2287.length co18 : Value).ownBlock ∧ some k_ ≠ (.slice Ao23 t2297.length co23 : Value).ownBlock ∧ some k_ ≠ (.slice Ao37 t2313.length co37 : Value).ownBlock ∧ some k_ ≠ (.slice Ao63 t2334.length co63 : Value).ownBlock ∧ k_ ≠ gb2324 ∧ k_ ≠ gb2331 ∧ k_ ≠ gb2345 ∧ k_ ≠ gb2352) (.slice Ao30 t2305.length co30) t2305) := ⟨qh2_⟩
     replace HO2315 : Aside0 (Kd.R k_Item 69 w87 w.heap.size (fun k_ => some k_ ≠ (.slice Ao18 t2287.length co18 : Value).ownBlock ∧ some k_ ≠ (.slice Ao23 t2297.length co23 : Value).ownBlock ∧ some k_ ≠ (.slice Ao30 t2305.length co30 : Value).ownBlock ∧ some k_ ≠ (.slice Ao63 t2334.length co63 : Value).ownBlock ∧ k_ ≠ gb2324 ∧ k_ ≠ gb2331 ∧ k_ ≠ gb2345 ∧ k_ ≠ gb2352) (.slice Ao37 t2313.length co37) t2313) := ⟨qh1_⟩
     replace HO2336 : Aside0 (Kd.R k_Item 69 w87 w.heap.size (fun k_ => some k_ ≠ (.slice Ao18 t2287.length co18 : Value).ownBlock ∧ some k_ ≠ (.slice Ao23 t2297.length co23 : Value).ownBlock ∧ some k_ ≠ (.slice Ao30 t2305.length co30 : Value).ownBlock ∧ some k_ ≠ (.slice Ao37 t2313.length co37 : Value).ownBlock ∧ k_ ≠ gb2324 ∧ k_ ≠ gb2331 ∧ k_ ≠ gb2345 ∧ k_ ≠ gb2352) (.slice Ao63 t2334.length co63) t2334) := ⟨qh0_⟩
     replace BK2294 := fl_ qe_ BK2294
     replace BK2302 := fl_ qe_ BK2302
     replace BK2310 := fl_ qe_ BK2310
     replace BK2317 := fl_ qe_ BK2317
     replace BK2324 := fl_ qe_ BK2324
     replace BK2331 := fl_ qe_ BK2331
     replace BK2338 := fl_ qe_ BK2338
     replace BK2345 := fl_ qe_ BK2345
     replace BK2352 : Aside0 (w87.heap[gb2352]? = some (.cells #[.int .i64 t2346, .string t2347, .string t2348, .int .i64 t2349, .int .i64 t2350] 69 (0, 0))) := ⟨qh26_⟩
     replace HB : Aside0 (Below w.heap.size w w87) := ⟨by rw [qe_]; exact hb_ HB.out⟩
     clear qe_
     replace HO2289 := Aside0.mk (Kd.R_drew HO2289.out)
     replace HO2299 := Aside0.mk (Kd.R_drew HO2299.out)
     replace HO2307 := Aside0.mk (Kd.R_drew HO2307.out)
     replace HO2315 := Aside0.mk (Kd.R_drew HO2315.out)
     replace HO2336 := Aside0.mk (Kd.R_drew HO2336.out)
     replace BK2294 := Aside0.mk (blk_drew BK2294.out)
     replace BK2302 := Aside0.mk (blk_drew BK2302.out)
     replace BK2310 := Aside0.mk (blk_drew BK2310.out)
     replace BK2317 := Aside0.mk (blk_drew BK2317.out)
     replace BK2324 := Aside0.mk (blk_drew BK2324.out)
     replace BK2331 := Aside0.mk (blk_drew BK2331.out)
     replace BK2338 := Aside0.mk (blk_drew BK2338.out)
     replace BK2345 := Aside0.mk (blk_drew BK2345.out)
     replace BK2352 := Aside0.mk (blk_drew BK2352.out)
     replace HB := Aside0.mk (below_drew1 HB.out)
     refine start_ (n := 41) (S := fun w' => True) (ds := []) laws_FnRows.m0 (by kernel_rfl) rfl rfl trivial (fun hHeld => ?_); refine with_tabW laws_FnRows.tab12 laws_FnRows.bits12 (fun HT_ HW_ => ?_)
     generalize w87.drew = w88 at HO2289 HO2299 HO2307 HO2315 HO2336 BK2294 BK2302 BK2310 BK2317 BK2324 BK2331 BK2338 BK2345 BK2352 HB hHeld ⊢
     refine pI_ 0 97 HT_ laws_FnRows.m1 rfl rfl ?_
     refine pI_ 1 98 HT_ laws_FnRows.m2 rfl rfl ?_
     refine pI_ 2 99 HT_ laws_FnRows.m3 rfl rfl ?_
     refine pI_ 3 100 HT_ laws_FnRows.m4 rfl rfl ?_
     refine pU_ 4 101 HT_ laws_FnRows.m5 rfl rfl ?_
     refine pU_ 5 102 HT_ laws_FnRows.m6 rfl rfl ?_
     refine pU_ 6 103 HT_ laws_FnRows.m7 rfl rfl ?_
     refine pI_ 7 104 HT_ laws_FnRows.m8 rfl rfl ?_
     refine pI_ 8 105 HT_ laws_FnRows.m9 rfl rfl ?_
     refine pU_ 9 106 HT_ laws_FnRows.m10 rfl rfl ?_
     refine pU_ 10 107 HT_ laws_FnRows.m11 rfl rfl ?_
     refine pU_ 11 108 HT_ laws_FnRows.m12 rfl rfl ?_
     refine pU_ 12 109 HT_ laws_FnRows.m13 rfl rfl ?_
     refine pI_ 13 110 HT_ laws_FnRows.m14 rfl rfl ?_
     refine pI_ 14 111 HT_ laws_FnRows.m15 rfl rfl ?_
     refine pU_ 15 112 HT_ laws_FnRows.m16 rfl rfl ?_
     refine pU_ 16 113 HT_ laws_FnRows.m17 rfl rfl ?_
     refine pU_ 17 114 HT_ laws_FnRows.m18 rfl rfl ?_
     refine pI_ 18 115 HT_ laws_FnRows.m19 rfl rfl ?_
     refine pI_ 19 116 HT_ laws_FnRows.m20 rfl rfl ?_
     refine pU_ 20 117 HT_ laws_FnRows.m21 rfl rfl ?_
     refine pU_ 21 118 HT_ laws_FnRows.m22 rfl rfl ?_
     refine pU_ 22 119 HT_ laws_FnRows.m23 rfl rfl ?_
     refine pI_ 23 120 HT_ laws_FnRows.m24 rfl rfl ?_
     refine pI_ 24 121 HT_ laws_FnRows.m25 rfl rfl ?_
     refine pU_ 25 122 HT_ laws_FnRows.m26 rfl rfl ?_
     refine pU_ 26 123 HT_ laws_FnRows.m27 rfl rfl ?_
     refine pU_ 27 124 HT_ laws_FnRows.m28 rfl rfl ?_
     refine pI_ 28 125 HT_ laws_FnRows.m29 rfl rfl ?_
     refine pI_ 29 126 HT_ laws_FnRows.m30 rfl rfl ?_
     refine pU_ 30 127 HT_ laws_FnRows.m31 rfl rfl ?_
     refine pU_ 31 128 HT_ laws_FnRows.m32 rfl rfl ?_
     refine pU_ 32 129 HT_ laws_FnRows.m33 rfl rfl ?_
     refine pI_ 33 130 HT_ laws_FnRows.m34 rfl rfl ?_
     refine pI_ 34 131 HT_ laws_FnRows.m35 rfl rfl ?_
     refine pU_ 35 132 HT_ laws_FnRows.m36 rfl rfl ?_
     refine pU_ 36 133 HT_ laws_FnRows.m37 rfl rfl ?_
     refine pU_ 37 134 HT_ laws_FnRows.m38 rfl rfl ?_
     refine pU_ 38 135 HT_ laws_FnRows.m39 rfl rfl ?_
     refine pU_ 39 136 HT_ laws_FnRows.m40 rfl rfl ?_
     refine pI_ 40 137 HT_ laws_FnRows.m41 rfl rfl ?_
     refine done_ (done_of HT_.out (by kernel_rfl)) ?_
     try go_wp2
     go_meet
     case rel => exact ⟨_, (true), (qh15_), H', ⟨qh25_⟩, ⟨rq_ HO2289.out⟩, ⟨rq_ HO2299.out⟩, ⟨rq_ HO2307.out⟩, ⟨rq_ HO2315.out⟩, ⟨rq_ HO2336.out⟩, ⟨bq_ BK2294.out⟩, ⟨bq_ BK2302.out⟩, ⟨bq_ BK2310.out⟩, ⟨bq_ BK2317.out⟩, ⟨bq_ BK2324.out⟩, ⟨bq_ BK2331.out⟩, ⟨bq_ BK2338.out⟩, ⟨bq_ BK2345.out⟩, ⟨bq_ BK2352.out⟩, ⟨hb_ HB.out⟩⟩
    ·
     as_aux_lemma =>
     rw [if_neg c86] at H
     have c86b0 : (t2301 != t2309) = false := by simpa using c86
     (try (have c86b1 : decide (t2301 = t2309) = true := by simpa using c86))
     (try (have c86b2 : (t2301 == t2309) = true := by simpa using c86))
     (try (have c86b3 : (!(t2301 == t2309)) = false := (show ∀ a b : Bool, ¬ (a != b) = true → (!(a == b)) = false by decide) _ _ c86))
     clear c86
     (first | rw [c86b0] | (simp only [i64_w, i32_w]; rw [c86b0]) | rw [c86b4] | rw [c86b3] | skip)
     by_cases c89 : t2300 = t2308
     ·
      as_aux_lemma =>
      rw [if_pos c89] at H
      have c89b0 : (t2300 == t2308) = true := beq_iff_eq.mpr c89
      have c89b1 : (t2300 != t2308) = false := bne_eq_false_iff_eq.mpr c89
      clear c89
      replace H := Option.bind_eq_some_iff.mp H
      obtain ⟨t2353, A900, H⟩ := H
      replace H : (if t2353 = true then (if (!(t2318 == t2325) || (!(t2319.toList == t2326.toList) || (!(t2320.toList == t2327.toList) || (!(t2321 == t2328) || (!(t2322 == t2329)))))) = true then (laws_FnRows.j1 kj2 t2290 t2291 t2300 t2301 true t2285 t2286 t2287 t2295 t2296 t2297) else (if t2323 = t2330 then (if (!(t2339 == t2346) || (!(t2340.toList == t2347.toList) || (!(t2341.toList == t2348.toList) || (!(t2342 == t2349) || (!(t2343 == t2350)))))) = true then (laws_FnRows.j1 kj2 t2290 t2291 t2300 t2301 true t2285 t2286 t2287 t2295 t2296 t2297) else (if (t2344 != t2351) = true then (laws_FnRows.j1 kj2 t2290 t2291 t2300 t2301 true t2285 t2286 t2287 t2295 t2296 t2297) else ((impl_RowOk.f kj2 t2285 t2286 t2287).bind fun t2354 => ((spec_RowOk.f kj2 t2285 t2286 t2287).bind fun t2355 => (laws_FnRows.j1 kj2 t2290 t2291 t2300 t2301 (t2354 != t2355) t2285 t2286 t2287 t2295 t2296 t2297))))) else (laws_FnRows.j1 kj2 t2290 t2291 t2300 t2301 true t2285 t2286 t2287 t2295 t2296 t2297))) else (laws_FnRows.j1 kj2 t2290 t2291 t2300 t2301 true t2285 t2286 t2287 t2295 t2296 t2297)) = some r := H
      have A90 := Aside0.mk A900
      clear A900
      by_cases c91 : t2353 = true
      ·
       as_aux_lemma =>
       subst c91
       have H1 : (if (!(t2318 == t2325) || (!(t2319.toList == t2326.toList) || (!(t2320.toList == t2327.toList) || (!(t2321 == t2328) || (!(t2322 == t2329)))))) = true then (laws_FnRows.j1 kj2 t2290 t2291 t2300 t2301 true t2285 t2286 t2287 t2295 t2296 t2297) else (if t2323 = t2330 then (if (!(t2339 == t2346) || (!(t2340.toList == t2347.toList) || (!(t2341.toList == t2348.toList) || (!(t2342 == t2349) || (!(t2343 == t2350)))))) = true then (laws_FnRows.j1 kj2 t2290 t2291 t2300 t2301 true t2285 t2286 t2287 t2295 t2296 t2297) else (if (t2344 != t2351) = true then (laws_FnRows.j1 kj2 t2290 t2291 t2300 t2301 true t2285 t2286 t2287 t2295 t2296 t2297) else ((impl_RowOk.f kj2 t2285 t2286 t2287).bind fun t2354 => ((spec_RowOk.f kj2 t2285 t2286 t2287).bind fun t2355 => (laws_FnRows.j1 kj2 t2290 t2291 t2300 t2301 (t2354 != t2355) t2285 t2286 t2287 t2295 t2296 t2297))))) else (laws_FnRows.j1 kj2 t2290 t2291 t2300 t2301 true t2285 t2286 t2287 t2295 t2296 t2297))) = some r := by rw [if_pos rfl] at H; exact H
       clear H
       have H := H1
       clear H1
       by_cases c92 : (!(t2318 == t2325) || (!(t2319.toList == t2326.toList) || (!(t2320.toList == t2327.toList) || (!(t2321 == t2328) || (!(t2322 == t2329)))))) = true
       ·
        as_aux_lemma =>
        rw [if_pos c92] at H
        have c92b0 : (!(t2318 == t2325) || (!(t2319.toList == t2326.toList) || (!(t2320.toList == t2327.toList) || (!(t2321 == t2328) || (!(t2322 == t2329)))))) = true := c92
        clear c92
        have H' := Aside0.mk H
        clear H
        try go_wp2
        obtain ⟨w93, qe_⟩ : ∃ x_, x_ = (((((w76.setCell ⟨gb2352, 0, none⟩ (.int .i64 t2346)).setCell ⟨gb2352, 1, none⟩ (.string t2347)).setCell ⟨gb2352, 2, none⟩ (.string t2348)).setCell ⟨gb2352, 3, none⟩ (.int .i64 t2349)).setCell ⟨gb2352, 4, none⟩ (.int .i64 t2350)) := ⟨_, rfl⟩
        rw [← qe_]
        replace HO2289 : Aside0 (Kd.R k_Item 69 w93 w.heap.size (fun k_ => some k_ ≠ (.slice Ao23 t2297.length co23 : Value).ownBlock ∧ some k_ ≠ (.slice Ao30 t2305.length co30 : Value).ownBlock ∧ some k_ ≠ (.slice Ao37 t2313.length co37 : Value).ownBlock ∧ some k_ ≠ (.slice Ao63 t2334.length co63 : Value).ownBlock ∧ k_ ≠ gb2324 ∧ k_ ≠ gb2331 ∧ k_ ≠ gb2345 ∧ k_ ≠ gb2352) (.slice Ao18 t2287.length co18) t2287) := ⟨qh4_⟩
        replace HO2299 : Aside0 (Kd.R k_Item 69 w93 w.heap.size (fun k_ => some k_ ≠ (.slice Ao18 t2287.length co18 : Value).ownBlock ∧ some k_ ≠ (.slice Ao30 t2305.length co30 : Value).ownBlock ∧ some k_ ≠ (.slice Ao37 t2313.length co37 : Value).ownBlock ∧ some k_ ≠ (.slice Ao63 t2334.length co63 : Value).ownBlock ∧ k_ ≠ gb2324 ∧ k_ ≠ gb2331 ∧ k_ ≠ gb2345 ∧ k_ ≠ gb2352) (.slice Ao23 t2297.length co23) t2297) := ⟨qh3_⟩
        replace HO2307 : Aside0 (Kd.R k_Item 69 w93 w.heap.size (fun k_ => some k_ ≠ (.slice Ao18 t2287.length co18 : Value).ownBlock ∧ some k_ ≠ (.slice Ao23 t2297.length co23 : Value).ownBlock ∧ some k_ ≠ (.slice Ao37 t2313.length co37 : Value).ownBlock ∧ some k_ ≠ (.slice Ao63 t2334.length co63 : Value).ownBlock ∧ k_ ≠ gb2324 ∧ k_ ≠ gb2331 ∧ k_ ≠ gb2345 ∧ k_ ≠ gb2352) (.slice Ao30 t2305.length co30) t2305) := ⟨qh2_⟩
        replace HO2315 : Aside0 (Kd.R k_Item 69 w93 w.heap.size (fun k_ => some k_ ≠ (.slice Ao18 t2287.length co18 : Value).ownBlock ∧ some k_ ≠ (.slice Ao23 t2297.length co23 : Value).ownBlock ∧ some k_ ≠ (.slice Ao30 t2305.length co30 : Value).ownBlock ∧ some k_ ≠ (.slice Ao63 t2334.length co63 : Value).ownBlock ∧ k_ ≠ gb2324 ∧ k_ ≠ gb2331 ∧ k_ ≠ gb2345 ∧ k_ ≠ gb2352) (.slice Ao37 t2313.length co37) t2313) := ⟨qh1_⟩
        replace HO2336 : Aside0 (Kd.R k_Item 69 w93 w.heap.size (fun k_ => some k_ ≠ (.slice Ao18 t2287.length co18 : Value).ownBlock ∧ some k_ ≠ (.slice Ao23 t2297.length co23 : Value).ownBlock ∧ some k_ ≠ (.slice Ao30 t2305.length co30 : Value).ownBlock ∧ some k_ ≠ (.slice Ao37 t2313.length co37 : Value).ownBlock ∧ k_ ≠ gb2324 ∧ k_ ≠ gb2331 ∧ k_ ≠ gb2345 ∧ k_ ≠ gb2352) (.slice Ao63 t2334.length co63) t2334) := ⟨qh0_⟩
        replace BK2294 := fl_ qe_ BK2294
        replace BK2302 := fl_ qe_ BK2302
        replace BK2310 := fl_ qe_ BK2310
        replace BK2317 := fl_ qe_ BK2317
        replace BK2324 := fl_ qe_ BK2324
        replace BK2331 := fl_ qe_ BK2331
        replace BK2338 := fl_ qe_ BK2338
        replace BK2345 := fl_ qe_ BK2345
        replace BK2352 : Aside0 (w93.heap[gb2352]? = some (.cells #[.int .i64 t2346, .string t2347, .string t2348, .int .i64 t2349, .int .i64 t2350] 69 (0, 0))) := ⟨qh26_⟩
        replace HB : Aside0 (Below w.heap.size w w93) := ⟨by rw [qe_]; exact hb_ HB.out⟩
        clear qe_
        replace HO2289 := Aside0.mk (Kd.R_drew HO2289.out)
        replace HO2299 := Aside0.mk (Kd.R_drew HO2299.out)
        replace HO2307 := Aside0.mk (Kd.R_drew HO2307.out)
        replace HO2315 := Aside0.mk (Kd.R_drew HO2315.out)
        replace HO2336 := Aside0.mk (Kd.R_drew HO2336.out)
        replace BK2294 := Aside0.mk (blk_drew BK2294.out)
        replace BK2302 := Aside0.mk (blk_drew BK2302.out)
        replace BK2310 := Aside0.mk (blk_drew BK2310.out)
        replace BK2317 := Aside0.mk (blk_drew BK2317.out)
        replace BK2324 := Aside0.mk (blk_drew BK2324.out)
        replace BK2331 := Aside0.mk (blk_drew BK2331.out)
        replace BK2338 := Aside0.mk (blk_drew BK2338.out)
        replace BK2345 := Aside0.mk (blk_drew BK2345.out)
        replace BK2352 := Aside0.mk (blk_drew BK2352.out)
        replace HB := Aside0.mk (below_drew1 HB.out)
        refine start_ (n := 41) (S := fun w' => w'.cell? ⟨gb2302, 0, none⟩ = some (.int .i64 t2295) ∧ w'.cell? ⟨gb2302, 1, none⟩ = some (.int .i64 t2296) ∧ w'.cell? ⟨gb2302, 2, none⟩ = some (.slice Ao23 t2297.length co23) ∧ w'.cell? ⟨gb2310, 0, none⟩ = some (.int .i64 t2303) ∧ w'.cell? ⟨gb2310, 1, none⟩ = some (.int .i64 t2304) ∧ w'.cell? ⟨gb2310, 2, none⟩ = some (.slice Ao30 t2305.length co30) ∧ w'.cell? ⟨gb2324, 0, none⟩ = some (.int .i64 t2318) ∧ w'.cell? ⟨gb2324, 1, none⟩ = some (.string t2319) ∧ w'.cell? ⟨gb2324, 2, none⟩ = some (.string t2320) ∧ w'.cell? ⟨gb2324, 3, none⟩ = some (.int .i64 t2321) ∧ w'.cell? ⟨gb2324, 4, none⟩ = some (.int .i64 t2322) ∧ w'.cell? ⟨gb2331, 0, none⟩ = some (.int .i64 t2325) ∧ w'.cell? ⟨gb2331, 1, none⟩ = some (.string t2326) ∧ w'.cell? ⟨gb2331, 2, none⟩ = some (.string t2327) ∧ w'.cell? ⟨gb2331, 3, none⟩ = some (.int .i64 t2328) ∧ w'.cell? ⟨gb2331, 4, none⟩ = some (.int .i64 t2329)) (ds := []) laws_FnRows.m0 (by kernel_rfl) rfl rfl ⟨bc_ BK2302 0, bc_ BK2302 1, bc_ BK2302 2, bc_ BK2310 0, bc_ BK2310 1, bc_ BK2310 2, bc_ BK2324 0, bc_ BK2324 1, bc_ BK2324 2, bc_ BK2324 3, bc_ BK2324 4, bc_ BK2331 0, bc_ BK2331 1, bc_ BK2331 2, bc_ BK2331 3, bc_ BK2331 4⟩ (fun hHeld => ?_); refine with_tabW laws_FnRows.tab12 laws_FnRows.bits12 (fun HT_ HW_ => ?_)
        generalize w93.drew = w94 at HO2289 HO2299 HO2307 HO2315 HO2336 BK2294 BK2302 BK2310 BK2317 BK2324 BK2331 BK2338 BK2345 BK2352 HB hHeld ⊢
        refine pI_ 0 97 HT_ laws_FnRows.m1 rfl rfl ?_
        refine pI_ 1 98 HT_ laws_FnRows.m2 rfl rfl ?_
        refine pI_ 2 99 HT_ laws_FnRows.m3 rfl rfl ?_
        refine pI_ 3 100 HT_ laws_FnRows.m4 rfl rfl ?_
        refine pI_ 4 101 HT_ laws_FnRows.m5 rfl rfl ?_
        refine pI_ 5 102 HT_ laws_FnRows.m6 rfl rfl ?_
        refine pI_ 6 103 HT_ laws_FnRows.m7 rfl rfl ?_
        refine pI_ 7 104 HT_ laws_FnRows.m8 rfl rfl ?_
        refine pI_ 8 105 HT_ laws_FnRows.m9 rfl rfl ?_
        refine tk_ 9 106 HT_ HW_ laws_FnRows.m10 rfl rfl hHeld ?_
        refine tk_ 10 107 HT_ HW_ laws_FnRows.m11 rfl rfl hHeld ?_
        refine on_ 11 108 HT_ laws_FnRows.m12 rfl rfl (fun K hK => ?_)
        refine goes_ Try.func43 (by kernel_rfl) rfl #[.agg #[.int .i64 t2295, .int .i64 t2296, .slice Ao23 t2297.length co23], .agg #[.int .i64 t2303, .int .i64 t2304, .slice Ao30 t2305.length co30]] (by rfl) rfl rfl sm_ ?_
        with_reducible refine (laws_sameRow.calls kj2 t2295 t2296 _ _ t2297 t2303 t2304 _ _ t2305 true _ ?side1 ?side2 ?side3 ?side4 A90.out).mono ?_
        (case side1 => repeat (first | exact (Kd.R_reads' HO2299.out).2.2 | (with_reducible refine Kd.C_alloc ?_ _) | (with_reducible refine Kd.C_drewN ?_ _) | (with_reducible refine Kd.C_drew ?_)))
        (case side2 => exact (Kd.R_reads' HO2299.out).2.1)
        (case side3 => repeat (first | exact (Kd.R_reads' HO2307.out).2.2 | (with_reducible refine Kd.C_alloc ?_ _) | (with_reducible refine Kd.C_drewN ?_ _) | (with_reducible refine Kd.C_drew ?_)))
        (case side4 => exact (Kd.R_reads' HO2307.out).2.1)
        rintro e w95 ⟨rfl, hb⟩
        refine ⟨_, rfl, ?_⟩
        replace HO2289 := cr_ HO2289 hb
        replace HO2299 := cr_ HO2299 hb
        replace HO2307 := cr_ HO2307 hb
        replace HO2315 := cr_ HO2315 hb
        replace HO2336 := cr_ HO2336 hb
        replace BK2294 := cb_ BK2294 hb
        replace BK2302 := cb_ BK2302 hb
        replace BK2310 := cb_ BK2310 hb
        replace BK2317 := cb_ BK2317 hb
        replace BK2324 := cb_ BK2324 hb
        replace BK2331 := cb_ BK2331 hb
        replace BK2338 := cb_ BK2338 hb
        replace BK2345 := cb_ BK2345 hb
        replace BK2352 := cb_ BK2352 hb
        replace HB := ch_ HB hb
        (try clear hb); (try clear hb2); (try clear hk); (try clear hi)
        refine hK.out _ _ ⟨bc_ BK2302 0, bc_ BK2302 1, bc_ BK2302 2, bc_ BK2310 0, bc_ BK2310 1, bc_ BK2310 2, bc_ BK2324 0, bc_ BK2324 1, bc_ BK2324 2, bc_ BK2324 3, bc_ BK2324 4, bc_ BK2331 0, bc_ BK2331 1, bc_ BK2331 2, bc_ BK2331 3, bc_ BK2331 4⟩ (fun hHeld => ?_)
        clear hK K
        refine nm_ ?_
        refine pI_ 12 109 HT_ laws_FnRows.m13 rfl rfl ?_
        refine pI_ 13 110 HT_ laws_FnRows.m14 rfl rfl ?_
        refine pI_ 14 111 HT_ laws_FnRows.m15 rfl rfl ?_
        refine tk_ 15 112 HT_ HW_ laws_FnRows.m16 rfl rfl hHeld ?_
        refine tk_ 16 113 HT_ HW_ laws_FnRows.m17 rfl rfl hHeld ?_
        refine pI_ 17 114 HT_ laws_FnRows.m18 rfl rfl ?_
        refine pI_ 18 115 HT_ laws_FnRows.m19 rfl rfl ?_
        refine pI_ 19 116 HT_ laws_FnRows.m20 rfl rfl ?_
        refine pU_ 20 117 HT_ laws_FnRows.m21 rfl rfl ?_
        refine pU_ 21 118 HT_ laws_FnRows.m22 rfl rfl ?_
        refine pU_ 22 119 HT_ laws_FnRows.m23 rfl rfl ?_
        refine pI_ 23 120 HT_ laws_FnRows.m24 rfl rfl ?_
        refine pI_ 24 121 HT_ laws_FnRows.m25 rfl rfl ?_
        refine pU_ 25 122 HT_ laws_FnRows.m26 rfl rfl ?_
        refine pU_ 26 123 HT_ laws_FnRows.m27 rfl rfl ?_
        refine pU_ 27 124 HT_ laws_FnRows.m28 rfl rfl ?_
        refine pI_ 28 125 HT_ laws_FnRows.m29 rfl rfl ?_
        refine pI_ 29 126 HT_ laws_FnRows.m30 rfl rfl ?_
        refine pU_ 30 127 HT_ laws_FnRows.m31 rfl rfl ?_
        refine pU_ 31 128 HT_ laws_FnRows.m32 rfl rfl ?_
        refine pU_ 32 129 HT_ laws_FnRows.m33 rfl rfl ?_
        refine pI_ 33 130 HT_ laws_FnRows.m34 rfl rfl ?_
        refine pI_ 34 131 HT_ laws_FnRows.m35 rfl rfl ?_
        refine pU_ 35 132 HT_ laws_FnRows.m36 rfl rfl ?_
        refine pU_ 36 133 HT_ laws_FnRows.m37 rfl rfl ?_
        refine pU_ 37 134 HT_ laws_FnRows.m38 rfl rfl ?_
        refine pU_ 38 135 HT_ laws_FnRows.m39 rfl rfl ?_
        refine pU_ 39 136 HT_ laws_FnRows.m40 rfl rfl ?_
        refine pI_ 40 137 HT_ laws_FnRows.m41 rfl rfl ?_
        refine done_ (done_of HT_.out (by kernel_rfl)) ?_
        try go_wp2
        go_meet
        case rel => exact ⟨_, (true), (qh15_), H', ⟨qh25_⟩, ⟨rq_ HO2289.out⟩, ⟨rq_ HO2299.out⟩, ⟨rq_ HO2307.out⟩, ⟨rq_ HO2315.out⟩, ⟨rq_ HO2336.out⟩, ⟨bq_ BK2294.out⟩, ⟨bq_ BK2302.out⟩, ⟨bq_ BK2310.out⟩, ⟨bq_ BK2317.out⟩, ⟨bq_ BK2324.out⟩, ⟨bq_ BK2331.out⟩, ⟨bq_ BK2338.out⟩, ⟨bq_ BK2345.out⟩, ⟨bq_ BK2352.out⟩, ⟨hb_ HB.out⟩⟩
       ·
        as_aux_lemma =>
        rw [if_neg c92] at H
        have c92b0 : (!(t2318 == t2325) || (!(t2319.toList == t2326.toList) || (!(t2320.toList == t2327.toList) || (!(t2321 == t2328) || (!(t2322 == t2329)))))) = false := by simpa using c92
        clear c92
        by_cases c96 : t2323 = t2330
        ·
         as_aux_lemma =>
         rw [if_pos c96] at H
         have c96b0 : (t2323 == t2330) = true := beq_iff_eq.mpr c96
         have c96b1 : (t2323 != t2330) = false := bne_eq_false_iff_eq.mpr c96
         clear c96
         by_cases c97 : (!(t2339 == t2346) || (!(t2340.toList == t2347.toList) || (!(t2341.toList == t2348.toList) || (!(t2342 == t2349) || (!(t2343 == t2350)))))) = true
         ·
          as_aux_lemma =>
          rw [if_pos c97] at H
          have c97b0 : (!(t2339 == t2346) || (!(t2340.toList == t2347.toList) || (!(t2341.toList == t2348.toList) || (!(t2342 == t2349) || (!(t2343 == t2350)))))) = true := c97
          clear c97
          have H' := Aside0.mk H
          clear H
          try go_wp2
          obtain ⟨w98, qe_⟩ : ∃ x_, x_ = (((((w76.setCell ⟨gb2352, 0, none⟩ (.int .i64 t2346)).setCell ⟨gb2352, 1, none⟩ (.string t2347)).setCell ⟨gb2352, 2, none⟩ (.string t2348)).setCell ⟨gb2352, 3, none⟩ (.int .i64 t2349)).setCell ⟨gb2352, 4, none⟩ (.int .i64 t2350)) := ⟨_, rfl⟩
          rw [← qe_]
          replace HO2289 : Aside0 (Kd.R k_Item 69 w98 w.heap.size (fun k_ => some k_ ≠ (.slice Ao23 t2297.length co23 : Value).ownBlock ∧ some k_ ≠ (.slice Ao30 t2305.length co30 : Value).ownBlock ∧ some k_ ≠ (.slice Ao37 t2313.length co37 : Value).ownBlock ∧ some k_ ≠ (.slice Ao63 t2334.length co63 : Value).ownBlock ∧ k_ ≠ gb2324 ∧ k_ ≠ gb2331 ∧ k_ ≠ gb2345 ∧ k_ ≠ gb2352) (.slice Ao18 t2287.length co18) t2287) := ⟨qh4_⟩
          replace HO2299 : Aside0 (Kd.R k_Item 69 w98 w.heap.size (fun k_ => some k_ ≠ (.slice Ao18 t2287.length co18 : Value).ownBlock ∧ some k_ ≠ (.slice Ao30 t2305.length co30 : Value).ownBlock ∧ some k_ ≠ (.slice Ao37 t2313.length co37 : Value).ownBlock ∧ some k_ ≠ (.slice Ao63 t2334.length co63 : Value).ownBlock ∧ k_ ≠ gb2324 ∧ k_ ≠ gb2331 ∧ k_ ≠ gb2345 ∧ k_ ≠ gb2352) (.slice Ao23 t2297.length co23) t2297) := ⟨qh3_⟩
          replace HO2307 : Aside0 (Kd.R k_Item 69 w98 w.heap.size (fun k_ => some k_ ≠ (.slice Ao18 t2287.length co18 : Value).ownBlock ∧ some k_ ≠ (.slice Ao23 t2297.length co23 : Value).ownBlock ∧ some k_ ≠ (.slice Ao37 t2313.length co37 : Value).ownBlock ∧ some k_ ≠ (.slice Ao63 t2334.length co63 : Value).ownBlock ∧ k_ ≠ gb2324 ∧ k_ ≠ gb2331 ∧ k_ ≠ gb2345 ∧ k_ ≠ gb2352) (.slice Ao30 t2305.length co30) t2305) := ⟨qh2_⟩
          replace HO2315 : Aside0 (Kd.R k_Item 69 w98 w.heap.size (fun k_ => some k_ ≠ (.slice Ao18 t2287.length co18 : Value).ownBlock ∧ some k_ ≠ (.slice Ao23 t2297.length co23 : Value).ownBlock ∧ some k_ ≠ (.slice Ao30 t2305.length co30 : Value).ownBlock ∧ some k_ ≠ (.slice Ao63 t2334.length co63 : Value).ownBlock ∧ k_ ≠ gb2324 ∧ k_ ≠ gb2331 ∧ k_ ≠ gb2345 ∧ k_ ≠ gb2352) (.slice Ao37 t2313.length co37) t2313) := ⟨qh1_⟩
          replace HO2336 : Aside0 (Kd.R k_Item 69 w98 w.heap.size (fun k_ => some k_ ≠ (.slice Ao18 t2287.length co18 : Value).ownBlock ∧ some k_ ≠ (.slice Ao23 t2297.length co23 : Value).ownBlock ∧ some k_ ≠ (.slice Ao30 t2305.length co30 : Value).ownBlock ∧ some k_ ≠ (.slice Ao37 t2313.length co37 : Value).ownBlock ∧ k_ ≠ gb2324 ∧ k_ ≠ gb2331 ∧ k_ ≠ gb2345 ∧ k_ ≠ gb2352) (.slice Ao63 t2334.length co63) t2334) := ⟨qh0_⟩
          replace BK2294 := fl_ qe_ BK2294
          replace BK2302 := fl_ qe_ BK2302
          replace BK2310 := fl_ qe_ BK2310
          replace BK2317 := fl_ qe_ BK2317
          replace BK2324 := fl_ qe_ BK2324
          replace BK2331 := fl_ qe_ BK2331
          replace BK2338 := fl_ qe_ BK2338
          replace BK2345 := fl_ qe_ BK2345
          replace BK2352 : Aside0 (w98.heap[gb2352]? = some (.cells #[.int .i64 t2346, .string t2347, .string t2348, .int .i64 t2349, .int .i64 t2350] 69 (0, 0))) := ⟨qh26_⟩
          replace HB : Aside0 (Below w.heap.size w w98) := ⟨by rw [qe_]; exact hb_ HB.out⟩
          clear qe_
          replace HO2289 := Aside0.mk (Kd.R_drew HO2289.out)
          replace HO2299 := Aside0.mk (Kd.R_drew HO2299.out)
          replace HO2307 := Aside0.mk (Kd.R_drew HO2307.out)
          replace HO2315 := Aside0.mk (Kd.R_drew HO2315.out)
          replace HO2336 := Aside0.mk (Kd.R_drew HO2336.out)
          replace BK2294 := Aside0.mk (blk_drew BK2294.out)
          replace BK2302 := Aside0.mk (blk_drew BK2302.out)
          replace BK2310 := Aside0.mk (blk_drew BK2310.out)
          replace BK2317 := Aside0.mk (blk_drew BK2317.out)
          replace BK2324 := Aside0.mk (blk_drew BK2324.out)
          replace BK2331 := Aside0.mk (blk_drew BK2331.out)
          replace BK2338 := Aside0.mk (blk_drew BK2338.out)
          replace BK2345 := Aside0.mk (blk_drew BK2345.out)
          replace BK2352 := Aside0.mk (blk_drew BK2352.out)
          replace HB := Aside0.mk (below_drew1 HB.out)
          refine start_ (n := 41) (S := fun w' => w'.cell? ⟨gb2302, 0, none⟩ = some (.int .i64 t2295) ∧ w'.cell? ⟨gb2302, 1, none⟩ = some (.int .i64 t2296) ∧ w'.cell? ⟨gb2302, 2, none⟩ = some (.slice Ao23 t2297.length co23) ∧ w'.cell? ⟨gb2310, 0, none⟩ = some (.int .i64 t2303) ∧ w'.cell? ⟨gb2310, 1, none⟩ = some (.int .i64 t2304) ∧ w'.cell? ⟨gb2310, 2, none⟩ = some (.slice Ao30 t2305.length co30) ∧ w'.cell? ⟨gb2324, 0, none⟩ = some (.int .i64 t2318) ∧ w'.cell? ⟨gb2324, 1, none⟩ = some (.string t2319) ∧ w'.cell? ⟨gb2324, 2, none⟩ = some (.string t2320) ∧ w'.cell? ⟨gb2324, 3, none⟩ = some (.int .i64 t2321) ∧ w'.cell? ⟨gb2324, 4, none⟩ = some (.int .i64 t2322) ∧ w'.cell? ⟨gb2331, 0, none⟩ = some (.int .i64 t2325) ∧ w'.cell? ⟨gb2331, 1, none⟩ = some (.string t2326) ∧ w'.cell? ⟨gb2331, 2, none⟩ = some (.string t2327) ∧ w'.cell? ⟨gb2331, 3, none⟩ = some (.int .i64 t2328) ∧ w'.cell? ⟨gb2331, 4, none⟩ = some (.int .i64 t2329) ∧ w'.cell? ⟨gb2345, 0, none⟩ = some (.int .i64 t2339) ∧ w'.cell? ⟨gb2345, 1, none⟩ = some (.string t2340) ∧ w'.cell? ⟨gb2345, 2, none⟩ = some (.string t2341) ∧ w'.cell? ⟨gb2345, 3, none⟩ = some (.int .i64 t2342) ∧ w'.cell? ⟨gb2345, 4, none⟩ = some (.int .i64 t2343) ∧ w'.cell? ⟨gb2352, 0, none⟩ = some (.int .i64 t2346) ∧ w'.cell? ⟨gb2352, 1, none⟩ = some (.string t2347) ∧ w'.cell? ⟨gb2352, 2, none⟩ = some (.string t2348) ∧ w'.cell? ⟨gb2352, 3, none⟩ = some (.int .i64 t2349) ∧ w'.cell? ⟨gb2352, 4, none⟩ = some (.int .i64 t2350)) (ds := []) laws_FnRows.m0 (by kernel_rfl) rfl rfl ⟨bc_ BK2302 0, bc_ BK2302 1, bc_ BK2302 2, bc_ BK2310 0, bc_ BK2310 1, bc_ BK2310 2, bc_ BK2324 0, bc_ BK2324 1, bc_ BK2324 2, bc_ BK2324 3, bc_ BK2324 4, bc_ BK2331 0, bc_ BK2331 1, bc_ BK2331 2, bc_ BK2331 3, bc_ BK2331 4, bc_ BK2345 0, bc_ BK2345 1, bc_ BK2345 2, bc_ BK2345 3, bc_ BK2345 4, bc_ BK2352 0, bc_ BK2352 1, bc_ BK2352 2, bc_ BK2352 3, bc_ BK2352 4⟩ (fun hHeld => ?_); refine with_tabW laws_FnRows.tab12 laws_FnRows.bits12 (fun HT_ HW_ => ?_)
          generalize w98.drew = w99 at HO2289 HO2299 HO2307 HO2315 HO2336 BK2294 BK2302 BK2310 BK2317 BK2324 BK2331 BK2338 BK2345 BK2352 HB hHeld ⊢
          refine pI_ 0 97 HT_ laws_FnRows.m1 rfl rfl ?_
          refine pI_ 1 98 HT_ laws_FnRows.m2 rfl rfl ?_
          refine pI_ 2 99 HT_ laws_FnRows.m3 rfl rfl ?_
          refine pI_ 3 100 HT_ laws_FnRows.m4 rfl rfl ?_
          refine pI_ 4 101 HT_ laws_FnRows.m5 rfl rfl ?_
          refine pI_ 5 102 HT_ laws_FnRows.m6 rfl rfl ?_
          refine pI_ 6 103 HT_ laws_FnRows.m7 rfl rfl ?_
          refine pI_ 7 104 HT_ laws_FnRows.m8 rfl rfl ?_
          refine pI_ 8 105 HT_ laws_FnRows.m9 rfl rfl ?_
          refine tk_ 9 106 HT_ HW_ laws_FnRows.m10 rfl rfl hHeld ?_
          refine tk_ 10 107 HT_ HW_ laws_FnRows.m11 rfl rfl hHeld ?_
          refine on_ 11 108 HT_ laws_FnRows.m12 rfl rfl (fun K hK => ?_)
          refine goes_ Try.func43 (by kernel_rfl) rfl #[.agg #[.int .i64 t2295, .int .i64 t2296, .slice Ao23 t2297.length co23], .agg #[.int .i64 t2303, .int .i64 t2304, .slice Ao30 t2305.length co30]] (by rfl) rfl rfl sm_ ?_
          with_reducible refine (laws_sameRow.calls kj2 t2295 t2296 _ _ t2297 t2303 t2304 _ _ t2305 true _ ?side1 ?side2 ?side3 ?side4 A90.out).mono ?_
          (case side1 => repeat (first | exact (Kd.R_reads' HO2299.out).2.2 | (with_reducible refine Kd.C_alloc ?_ _) | (with_reducible refine Kd.C_drewN ?_ _) | (with_reducible refine Kd.C_drew ?_)))
          (case side2 => exact (Kd.R_reads' HO2299.out).2.1)
          (case side3 => repeat (first | exact (Kd.R_reads' HO2307.out).2.2 | (with_reducible refine Kd.C_alloc ?_ _) | (with_reducible refine Kd.C_drewN ?_ _) | (with_reducible refine Kd.C_drew ?_)))
          (case side4 => exact (Kd.R_reads' HO2307.out).2.1)
          rintro e w100 ⟨rfl, hb⟩
          refine ⟨_, rfl, ?_⟩
          replace HO2289 := cr_ HO2289 hb
          replace HO2299 := cr_ HO2299 hb
          replace HO2307 := cr_ HO2307 hb
          replace HO2315 := cr_ HO2315 hb
          replace HO2336 := cr_ HO2336 hb
          replace BK2294 := cb_ BK2294 hb
          replace BK2302 := cb_ BK2302 hb
          replace BK2310 := cb_ BK2310 hb
          replace BK2317 := cb_ BK2317 hb
          replace BK2324 := cb_ BK2324 hb
          replace BK2331 := cb_ BK2331 hb
          replace BK2338 := cb_ BK2338 hb
          replace BK2345 := cb_ BK2345 hb
          replace BK2352 := cb_ BK2352 hb
          replace HB := ch_ HB hb
          (try clear hb); (try clear hb2); (try clear hk); (try clear hi)
          refine hK.out _ _ ⟨bc_ BK2302 0, bc_ BK2302 1, bc_ BK2302 2, bc_ BK2310 0, bc_ BK2310 1, bc_ BK2310 2, bc_ BK2324 0, bc_ BK2324 1, bc_ BK2324 2, bc_ BK2324 3, bc_ BK2324 4, bc_ BK2331 0, bc_ BK2331 1, bc_ BK2331 2, bc_ BK2331 3, bc_ BK2331 4, bc_ BK2345 0, bc_ BK2345 1, bc_ BK2345 2, bc_ BK2345 3, bc_ BK2345 4, bc_ BK2352 0, bc_ BK2352 1, bc_ BK2352 2, bc_ BK2352 3, bc_ BK2352 4⟩ (fun hHeld => ?_)
          clear hK K
          refine nm_ ?_
          refine pI_ 12 109 HT_ laws_FnRows.m13 rfl rfl ?_
          refine pI_ 13 110 HT_ laws_FnRows.m14 rfl rfl ?_
          refine pI_ 14 111 HT_ laws_FnRows.m15 rfl rfl ?_
          refine tk_ 15 112 HT_ HW_ laws_FnRows.m16 rfl rfl hHeld ?_
          refine tk_ 16 113 HT_ HW_ laws_FnRows.m17 rfl rfl hHeld ?_
          refine pI_ 17 114 HT_ laws_FnRows.m18 rfl rfl ?_
          refine pI_ 18 115 HT_ laws_FnRows.m19 rfl rfl ?_
          refine pI_ 19 116 HT_ laws_FnRows.m20 rfl rfl ?_
          refine pI_ 20 117 HT_ laws_FnRows.m21 rfl rfl ?_
          refine pI_ 21 118 HT_ laws_FnRows.m22 rfl rfl ?_
          refine pI_ 22 119 HT_ laws_FnRows.m23 rfl rfl ?_
          refine pI_ 23 120 HT_ laws_FnRows.m24 rfl rfl ?_
          refine pI_ 24 121 HT_ laws_FnRows.m25 rfl rfl ?_
          refine tk_ 25 122 HT_ HW_ laws_FnRows.m26 rfl rfl hHeld ?_
          refine tk_ 26 123 HT_ HW_ laws_FnRows.m27 rfl rfl hHeld ?_
          refine pI_ 27 124 HT_ laws_FnRows.m28 rfl rfl ?_
          refine pI_ 28 125 HT_ laws_FnRows.m29 rfl rfl ?_
          refine pI_ 29 126 HT_ laws_FnRows.m30 rfl rfl ?_
          refine pU_ 30 127 HT_ laws_FnRows.m31 rfl rfl ?_
          refine pU_ 31 128 HT_ laws_FnRows.m32 rfl rfl ?_
          refine pU_ 32 129 HT_ laws_FnRows.m33 rfl rfl ?_
          refine pI_ 33 130 HT_ laws_FnRows.m34 rfl rfl ?_
          refine pI_ 34 131 HT_ laws_FnRows.m35 rfl rfl ?_
          refine pU_ 35 132 HT_ laws_FnRows.m36 rfl rfl ?_
          refine pU_ 36 133 HT_ laws_FnRows.m37 rfl rfl ?_
          refine pU_ 37 134 HT_ laws_FnRows.m38 rfl rfl ?_
          refine pU_ 38 135 HT_ laws_FnRows.m39 rfl rfl ?_
          refine pU_ 39 136 HT_ laws_FnRows.m40 rfl rfl ?_
          refine pI_ 40 137 HT_ laws_FnRows.m41 rfl rfl ?_
          refine done_ (done_of HT_.out (by kernel_rfl)) ?_
          try go_wp2
          go_meet
          case rel => exact ⟨_, (true), (qh15_), H', ⟨qh25_⟩, ⟨rq_ HO2289.out⟩, ⟨rq_ HO2299.out⟩, ⟨rq_ HO2307.out⟩, ⟨rq_ HO2315.out⟩, ⟨rq_ HO2336.out⟩, ⟨bq_ BK2294.out⟩, ⟨bq_ BK2302.out⟩, ⟨bq_ BK2310.out⟩, ⟨bq_ BK2317.out⟩, ⟨bq_ BK2324.out⟩, ⟨bq_ BK2331.out⟩, ⟨bq_ BK2338.out⟩, ⟨bq_ BK2345.out⟩, ⟨bq_ BK2352.out⟩, ⟨hb_ HB.out⟩⟩
         ·
          as_aux_lemma =>
          rw [if_neg c97] at H
          have c97b0 : (!(t2339 == t2346) || (!(t2340.toList == t2347.toList) || (!(t2341.toList == t2348.toList) || (!(t2342 == t2349) || (!(t2343 == t2350)))))) = false := by simpa using c97
          clear c97
          by_cases c101 : (t2344 != t2351) = true
          ·
           as_aux_lemma =>
           rw [if_pos c101] at H
           have c101b0 : (t2344 != t2351) = true := c101
           (try (have c101b1 : decide (t2344 = t2351) = false := by simpa using c101))
           (try (have c101b2 : (t2344 == t2351) = false := by simpa using c101))
           (try (have c101b3 : ¬ (t2344 = t2351) := by simpa using c101))
           (try (have c101b4 : (!(t2344 == t2351)) = true := (show ∀ a b : Bool, (a != b) = true → (!(a == b)) = true by decide) _ _ c101))
           clear c101
           have H' := Aside0.mk H
           clear H
           try go_wp2
           obtain ⟨w102, qe_⟩ : ∃ x_, x_ = (((((w76.setCell ⟨gb2352, 0, none⟩ (.int .i64 t2346)).setCell ⟨gb2352, 1, none⟩ (.string t2347)).setCell ⟨gb2352, 2, none⟩ (.string t2348)).setCell ⟨gb2352, 3, none⟩ (.int .i64 t2349)).setCell ⟨gb2352, 4, none⟩ (.int .i64 t2350)) := ⟨_, rfl⟩
           rw [← qe_]
           replace HO2289 : Aside0 (Kd.R k_Item 69 w102 w.heap.size (fun k_ => some k_ ≠ (.slice Ao23 t2297.length co23 : Value).ownBlock ∧ some k_ ≠ (.slice Ao30 t2305.length co30 : Value).ownBlock ∧ some k_ ≠ (.slice Ao37 t2313.length co37 : Value).ownBlock ∧ some k_ ≠ (.slice Ao63 t2334.length co63 : Value).ownBlock ∧ k_ ≠ gb2324 ∧ k_ ≠ gb2331 ∧ k_ ≠ gb2345 ∧ k_ ≠ gb2352) (.slice Ao18 t2287.length co18) t2287) := ⟨qh4_⟩
           replace HO2299 : Aside0 (Kd.R k_Item 69 w102 w.heap.size (fun k_ => some k_ ≠ (.slice Ao18 t2287.length co18 : Value).ownBlock ∧ some k_ ≠ (.slice Ao30 t2305.length co30 : Value).ownBlock ∧ some k_ ≠ (.slice Ao37 t2313.length co37 : Value).ownBlock ∧ some k_ ≠ (.slice Ao63 t2334.length co63 : Value).ownBlock ∧ k_ ≠ gb2324 ∧ k_ ≠ gb2331 ∧ k_ ≠ gb2345 ∧ k_ ≠ gb2352) (.slice Ao23 t2297.length co23) t2297) := ⟨qh3_⟩
           replace HO2307 : Aside0 (Kd.R k_Item 69 w102 w.heap.size (fun k_ => some k_ ≠ (.slice Ao18 t2287.length co18 : Value).ownBlock ∧ some k_ ≠ (.slice Ao23 t2297.length co23 : Value).ownBlock ∧ some k_ ≠ (.slice Ao37 t2313.length co37 : Value).ownBlock ∧ some k_ ≠ (.slice Ao63 t2334.length co63 : Value).ownBlock ∧ k_ ≠ gb2324 ∧ k_ ≠ gb2331 ∧ k_ ≠ gb2345 ∧ k_ ≠ gb2352) (.slice Ao30 t2305.length co30) t2305) := ⟨qh2_⟩
           replace HO2315 : Aside0 (Kd.R k_Item 69 w102 w.heap.size (fun k_ => some k_ ≠ (.slice Ao18 t2287.length co18 : Value).ownBlock ∧ some k_ ≠ (.slice Ao23 t2297.length co23 : Value).ownBlock ∧ some k_ ≠ (.slice Ao30 t2305.length co30 : Value).ownBlock ∧ some k_ ≠ (.slice Ao63 t2334.length co63 : Value).ownBlock ∧ k_ ≠ gb2324 ∧ k_ ≠ gb2331 ∧ k_ ≠ gb2345 ∧ k_ ≠ gb2352) (.slice Ao37 t2313.length co37) t2313) := ⟨qh1_⟩
           replace HO2336 : Aside0 (Kd.R k_Item 69 w102 w.heap.size (fun k_ => some k_ ≠ (.slice Ao18 t2287.length co18 : Value).ownBlock ∧ some k_ ≠ (.slice Ao23 t2297.length co23 : Value).ownBlock ∧ some k_ ≠ (.slice Ao30 t2305.length co30 : Value).ownBlock ∧ some k_ ≠ (.slice Ao37 t2313.length co37 : Value).ownBlock ∧ k_ ≠ gb2324 ∧ k_ ≠ gb2331 ∧ k_ ≠ gb2345 ∧ k_ ≠ gb2352) (.slice Ao63 t2334.length co63) t2334) := ⟨qh0_⟩
           replace BK2294 := fl_ qe_ BK2294
           replace BK2302 := fl_ qe_ BK2302
           replace BK2310 := fl_ qe_ BK2310
           replace BK2317 := fl_ qe_ BK2317
           replace BK2324 := fl_ qe_ BK2324
           replace BK2331 := fl_ qe_ BK2331
           replace BK2338 := fl_ qe_ BK2338
           replace BK2345 := fl_ qe_ BK2345
           replace BK2352 : Aside0 (w102.heap[gb2352]? = some (.cells #[.int .i64 t2346, .string t2347, .string t2348, .int .i64 t2349, .int .i64 t2350] 69 (0, 0))) := ⟨qh26_⟩
           replace HB : Aside0 (Below w.heap.size w w102) := ⟨by rw [qe_]; exact hb_ HB.out⟩
           clear qe_
           replace HO2289 := Aside0.mk (Kd.R_drew HO2289.out)
           replace HO2299 := Aside0.mk (Kd.R_drew HO2299.out)
           replace HO2307 := Aside0.mk (Kd.R_drew HO2307.out)
           replace HO2315 := Aside0.mk (Kd.R_drew HO2315.out)
           replace HO2336 := Aside0.mk (Kd.R_drew HO2336.out)
           replace BK2294 := Aside0.mk (blk_drew BK2294.out)
           replace BK2302 := Aside0.mk (blk_drew BK2302.out)
           replace BK2310 := Aside0.mk (blk_drew BK2310.out)
           replace BK2317 := Aside0.mk (blk_drew BK2317.out)
           replace BK2324 := Aside0.mk (blk_drew BK2324.out)
           replace BK2331 := Aside0.mk (blk_drew BK2331.out)
           replace BK2338 := Aside0.mk (blk_drew BK2338.out)
           replace BK2345 := Aside0.mk (blk_drew BK2345.out)
           replace BK2352 := Aside0.mk (blk_drew BK2352.out)
           replace HB := Aside0.mk (below_drew1 HB.out)
           refine start_ (n := 41) (S := fun w' => w'.cell? ⟨gb2302, 0, none⟩ = some (.int .i64 t2295) ∧ w'.cell? ⟨gb2302, 1, none⟩ = some (.int .i64 t2296) ∧ w'.cell? ⟨gb2302, 2, none⟩ = some (.slice Ao23 t2297.length co23) ∧ w'.cell? ⟨gb2310, 0, none⟩ = some (.int .i64 t2303) ∧ w'.cell? ⟨gb2310, 1, none⟩ = some (.int .i64 t2304) ∧ w'.cell? ⟨gb2310, 2, none⟩ = some (.slice Ao30 t2305.length co30) ∧ w'.cell? ⟨gb2324, 0, none⟩ = some (.int .i64 t2318) ∧ w'.cell? ⟨gb2324, 1, none⟩ = some (.string t2319) ∧ w'.cell? ⟨gb2324, 2, none⟩ = some (.string t2320) ∧ w'.cell? ⟨gb2324, 3, none⟩ = some (.int .i64 t2321) ∧ w'.cell? ⟨gb2324, 4, none⟩ = some (.int .i64 t2322) ∧ w'.cell? ⟨gb2331, 0, none⟩ = some (.int .i64 t2325) ∧ w'.cell? ⟨gb2331, 1, none⟩ = some (.string t2326) ∧ w'.cell? ⟨gb2331, 2, none⟩ = some (.string t2327) ∧ w'.cell? ⟨gb2331, 3, none⟩ = some (.int .i64 t2328) ∧ w'.cell? ⟨gb2331, 4, none⟩ = some (.int .i64 t2329) ∧ w'.cell? ⟨gb2345, 0, none⟩ = some (.int .i64 t2339) ∧ w'.cell? ⟨gb2345, 1, none⟩ = some (.string t2340) ∧ w'.cell? ⟨gb2345, 2, none⟩ = some (.string t2341) ∧ w'.cell? ⟨gb2345, 3, none⟩ = some (.int .i64 t2342) ∧ w'.cell? ⟨gb2345, 4, none⟩ = some (.int .i64 t2343) ∧ w'.cell? ⟨gb2352, 0, none⟩ = some (.int .i64 t2346) ∧ w'.cell? ⟨gb2352, 1, none⟩ = some (.string t2347) ∧ w'.cell? ⟨gb2352, 2, none⟩ = some (.string t2348) ∧ w'.cell? ⟨gb2352, 3, none⟩ = some (.int .i64 t2349) ∧ w'.cell? ⟨gb2352, 4, none⟩ = some (.int .i64 t2350)) (ds := []) laws_FnRows.m0 (by kernel_rfl) rfl rfl ⟨bc_ BK2302 0, bc_ BK2302 1, bc_ BK2302 2, bc_ BK2310 0, bc_ BK2310 1, bc_ BK2310 2, bc_ BK2324 0, bc_ BK2324 1, bc_ BK2324 2, bc_ BK2324 3, bc_ BK2324 4, bc_ BK2331 0, bc_ BK2331 1, bc_ BK2331 2, bc_ BK2331 3, bc_ BK2331 4, bc_ BK2345 0, bc_ BK2345 1, bc_ BK2345 2, bc_ BK2345 3, bc_ BK2345 4, bc_ BK2352 0, bc_ BK2352 1, bc_ BK2352 2, bc_ BK2352 3, bc_ BK2352 4⟩ (fun hHeld => ?_); refine with_tabW laws_FnRows.tab12 laws_FnRows.bits12 (fun HT_ HW_ => ?_)
           generalize w102.drew = w103 at HO2289 HO2299 HO2307 HO2315 HO2336 BK2294 BK2302 BK2310 BK2317 BK2324 BK2331 BK2338 BK2345 BK2352 HB hHeld ⊢
           refine pI_ 0 97 HT_ laws_FnRows.m1 rfl rfl ?_
           refine pI_ 1 98 HT_ laws_FnRows.m2 rfl rfl ?_
           refine pI_ 2 99 HT_ laws_FnRows.m3 rfl rfl ?_
           refine pI_ 3 100 HT_ laws_FnRows.m4 rfl rfl ?_
           refine pI_ 4 101 HT_ laws_FnRows.m5 rfl rfl ?_
           refine pI_ 5 102 HT_ laws_FnRows.m6 rfl rfl ?_
           refine pI_ 6 103 HT_ laws_FnRows.m7 rfl rfl ?_
           refine pI_ 7 104 HT_ laws_FnRows.m8 rfl rfl ?_
           refine pI_ 8 105 HT_ laws_FnRows.m9 rfl rfl ?_
           refine tk_ 9 106 HT_ HW_ laws_FnRows.m10 rfl rfl hHeld ?_
           refine tk_ 10 107 HT_ HW_ laws_FnRows.m11 rfl rfl hHeld ?_
           refine on_ 11 108 HT_ laws_FnRows.m12 rfl rfl (fun K hK => ?_)
           refine goes_ Try.func43 (by kernel_rfl) rfl #[.agg #[.int .i64 t2295, .int .i64 t2296, .slice Ao23 t2297.length co23], .agg #[.int .i64 t2303, .int .i64 t2304, .slice Ao30 t2305.length co30]] (by rfl) rfl rfl sm_ ?_
           with_reducible refine (laws_sameRow.calls kj2 t2295 t2296 _ _ t2297 t2303 t2304 _ _ t2305 true _ ?side1 ?side2 ?side3 ?side4 A90.out).mono ?_
           (case side1 => repeat (first | exact (Kd.R_reads' HO2299.out).2.2 | (with_reducible refine Kd.C_alloc ?_ _) | (with_reducible refine Kd.C_drewN ?_ _) | (with_reducible refine Kd.C_drew ?_)))
           (case side2 => exact (Kd.R_reads' HO2299.out).2.1)
           (case side3 => repeat (first | exact (Kd.R_reads' HO2307.out).2.2 | (with_reducible refine Kd.C_alloc ?_ _) | (with_reducible refine Kd.C_drewN ?_ _) | (with_reducible refine Kd.C_drew ?_)))
           (case side4 => exact (Kd.R_reads' HO2307.out).2.1)
           rintro e w104 ⟨rfl, hb⟩
           refine ⟨_, rfl, ?_⟩
           replace HO2289 := cr_ HO2289 hb
           replace HO2299 := cr_ HO2299 hb
           replace HO2307 := cr_ HO2307 hb
           replace HO2315 := cr_ HO2315 hb
           replace HO2336 := cr_ HO2336 hb
           replace BK2294 := cb_ BK2294 hb
           replace BK2302 := cb_ BK2302 hb
           replace BK2310 := cb_ BK2310 hb
           replace BK2317 := cb_ BK2317 hb
           replace BK2324 := cb_ BK2324 hb
           replace BK2331 := cb_ BK2331 hb
           replace BK2338 := cb_ BK2338 hb
           replace BK2345 := cb_ BK2345 hb
           replace BK2352 := cb_ BK2352 hb
           replace HB := ch_ HB hb
           (try clear hb); (try clear hb2); (try clear hk); (try clear hi)
           refine hK.out _ _ ⟨bc_ BK2302 0, bc_ BK2302 1, bc_ BK2302 2, bc_ BK2310 0, bc_ BK2310 1, bc_ BK2310 2, bc_ BK2324 0, bc_ BK2324 1, bc_ BK2324 2, bc_ BK2324 3, bc_ BK2324 4, bc_ BK2331 0, bc_ BK2331 1, bc_ BK2331 2, bc_ BK2331 3, bc_ BK2331 4, bc_ BK2345 0, bc_ BK2345 1, bc_ BK2345 2, bc_ BK2345 3, bc_ BK2345 4, bc_ BK2352 0, bc_ BK2352 1, bc_ BK2352 2, bc_ BK2352 3, bc_ BK2352 4⟩ (fun hHeld => ?_)
           clear hK K
           refine nm_ ?_
           refine pI_ 12 109 HT_ laws_FnRows.m13 rfl rfl ?_
           refine pI_ 13 110 HT_ laws_FnRows.m14 rfl rfl ?_
           refine pI_ 14 111 HT_ laws_FnRows.m15 rfl rfl ?_
           refine tk_ 15 112 HT_ HW_ laws_FnRows.m16 rfl rfl hHeld ?_
           refine tk_ 16 113 HT_ HW_ laws_FnRows.m17 rfl rfl hHeld ?_
           refine pI_ 17 114 HT_ laws_FnRows.m18 rfl rfl ?_
           refine pI_ 18 115 HT_ laws_FnRows.m19 rfl rfl ?_
           refine pI_ 19 116 HT_ laws_FnRows.m20 rfl rfl ?_
           refine pI_ 20 117 HT_ laws_FnRows.m21 rfl rfl ?_
           refine pI_ 21 118 HT_ laws_FnRows.m22 rfl rfl ?_
           refine pI_ 22 119 HT_ laws_FnRows.m23 rfl rfl ?_
           refine pI_ 23 120 HT_ laws_FnRows.m24 rfl rfl ?_
           refine pI_ 24 121 HT_ laws_FnRows.m25 rfl rfl ?_
           refine tk_ 25 122 HT_ HW_ laws_FnRows.m26 rfl rfl hHeld ?_
           refine tk_ 26 123 HT_ HW_ laws_FnRows.m27 rfl rfl hHeld ?_
           refine pI_ 27 124 HT_ laws_FnRows.m28 rfl rfl ?_
           refine pI_ 28 125 HT_ laws_FnRows.m29 rfl rfl ?_
           refine pI_ 29 126 HT_ laws_FnRows.m30 rfl rfl ?_
           refine pI_ 30 127 HT_ laws_FnRows.m31 rfl rfl ?_
           refine pI_ 31 128 HT_ laws_FnRows.m32 rfl rfl ?_
           refine pI_ 32 129 HT_ laws_FnRows.m33 rfl rfl ?_
           refine pI_ 33 130 HT_ laws_FnRows.m34 rfl rfl ?_
           refine pI_ 34 131 HT_ laws_FnRows.m35 rfl rfl ?_
           refine pU_ 35 132 HT_ laws_FnRows.m36 rfl rfl ?_
           refine pU_ 36 133 HT_ laws_FnRows.m37 rfl rfl ?_
           refine pU_ 37 134 HT_ laws_FnRows.m38 rfl rfl ?_
           refine pU_ 38 135 HT_ laws_FnRows.m39 rfl rfl ?_
           refine pU_ 39 136 HT_ laws_FnRows.m40 rfl rfl ?_
           refine pI_ 40 137 HT_ laws_FnRows.m41 rfl rfl ?_
           refine done_ (done_of HT_.out (by kernel_rfl)) ?_
           try go_wp2
           go_meet
           case rel => exact ⟨_, (true), (qh15_), H', ⟨qh25_⟩, ⟨rq_ HO2289.out⟩, ⟨rq_ HO2299.out⟩, ⟨rq_ HO2307.out⟩, ⟨rq_ HO2315.out⟩, ⟨rq_ HO2336.out⟩, ⟨bq_ BK2294.out⟩, ⟨bq_ BK2302.out⟩, ⟨bq_ BK2310.out⟩, ⟨bq_ BK2317.out⟩, ⟨bq_ BK2324.out⟩, ⟨bq_ BK2331.out⟩, ⟨bq_ BK2338.out⟩, ⟨bq_ BK2345.out⟩, ⟨bq_ BK2352.out⟩, ⟨hb_ HB.out⟩⟩
          ·
           as_aux_lemma =>
           rw [if_neg c101] at H
           have c101b0 : (t2344 != t2351) = false := by simpa using c101
           (try (have c101b1 : decide (t2344 = t2351) = true := by simpa using c101))
           (try (have c101b2 : (t2344 == t2351) = true := by simpa using c101))
           (try (have c101b3 : (!(t2344 == t2351)) = false := (show ∀ a b : Bool, ¬ (a != b) = true → (!(a == b)) = false by decide) _ _ c101))
           clear c101
           replace H := Option.bind_eq_some_iff.mp H
           obtain ⟨t2354, A1050, H⟩ := H
           replace H : ((spec_RowOk.f kj2 t2285 t2286 t2287).bind fun t2355 => (laws_FnRows.j1 kj2 t2290 t2291 t2300 t2301 (t2354 != t2355) t2285 t2286 t2287 t2295 t2296 t2297)) = some r := H
           have A105 := Aside0.mk A1050
           clear A1050
           replace H := Option.bind_eq_some_iff.mp H
           obtain ⟨t2355, A1060, H⟩ := H
           replace H : (laws_FnRows.j1 kj2 t2290 t2291 t2300 t2301 (t2354 != t2355) t2285 t2286 t2287 t2295 t2296 t2297) = some r := H
           have A106 := Aside0.mk A1060
           clear A1060
           have H' := Aside0.mk H
           clear H
           try go_wp2
           obtain ⟨w107, qe_⟩ : ∃ x_, x_ = (((((w76.setCell ⟨gb2352, 0, none⟩ (.int .i64 t2346)).setCell ⟨gb2352, 1, none⟩ (.string t2347)).setCell ⟨gb2352, 2, none⟩ (.string t2348)).setCell ⟨gb2352, 3, none⟩ (.int .i64 t2349)).setCell ⟨gb2352, 4, none⟩ (.int .i64 t2350)) := ⟨_, rfl⟩
           rw [← qe_]
           replace HO2289 : Aside0 (Kd.R k_Item 69 w107 w.heap.size (fun k_ => some k_ ≠ (.slice Ao23 t2297.length co23 : Value).ownBlock ∧ some k_ ≠ (.slice Ao30 t2305.length co30 : Value).ownBlock ∧ some k_ ≠ (.slice Ao37 t2313.length co37 : Value).ownBlock ∧ some k_ ≠ (.slice Ao63 t2334.length co63 : Value).ownBlock ∧ k_ ≠ gb2324 ∧ k_ ≠ gb2331 ∧ k_ ≠ gb2345 ∧ k_ ≠ gb2352) (.slice Ao18 t2287.length co18) t2287) := ⟨qh4_⟩
           replace HO2299 : Aside0 (Kd.R k_Item 69 w107 w.heap.size (fun k_ => some k_ ≠ (.slice Ao18 t2287.length co18 : Value).ownBlock ∧ some k_ ≠ (.slice Ao30 t2305.length co30 : Value).ownBlock ∧ some k_ ≠ (.slice Ao37 t2313.length co37 : Value).ownBlock ∧ some k_ ≠ (.slice Ao63 t2334.length co63 : Value).ownBlock ∧ k_ ≠ gb2324 ∧ k_ ≠ gb2331 ∧ k_ ≠ gb2345 ∧ k_ ≠ gb2352) (.slice Ao23 t2297.length co23) t2297) := ⟨qh3_⟩
           replace HO2307 : Aside0 (Kd.R k_Item 69 w107 w.heap.size (fun k_ => some k_ ≠ (.slice Ao18 t2287.length co18 : Value).ownBlock ∧ some k_ ≠ (.slice Ao23 t2297.length co23 : Value).ownBlock ∧ some k_ ≠ (.slice Ao37 t2313.length co37 : Value).ownBlock ∧ some k_ ≠ (.slice Ao63 t2334.length co63 : Value).ownBlock ∧ k_ ≠ gb2324 ∧ k_ ≠ gb2331 ∧ k_ ≠ gb2345 ∧ k_ ≠ gb2352) (.slice Ao30 t2305.length co30) t2305) := ⟨qh2_⟩
           replace HO2315 : Aside0 (Kd.R k_Item 69 w107 w.heap.size (fun k_ => some k_ ≠ (.slice Ao18 t2287.length co18 : Value).ownBlock ∧ some k_ ≠ (.slice Ao23 t2297.length co23 : Value).ownBlock ∧ some k_ ≠ (.slice Ao30 t2305.length co30 : Value).ownBlock ∧ some k_ ≠ (.slice Ao63 t2334.length co63 : Value).ownBlock ∧ k_ ≠ gb2324 ∧ k_ ≠ gb2331 ∧ k_ ≠ gb2345 ∧ k_ ≠ gb2352) (.slice Ao37 t2313.length co37) t2313) := ⟨qh1_⟩
           replace HO2336 : Aside0 (Kd.R k_Item 69 w107 w.heap.size (fun k_ => some k_ ≠ (.slice Ao18 t2287.length co18 : Value).ownBlock ∧ some k_ ≠ (.slice Ao23 t2297.length co23 : Value).ownBlock ∧ some k_ ≠ (.slice Ao30 t2305.length co30 : Value).ownBlock ∧ some k_ ≠ (.slice Ao37 t2313.length co37 : Value).ownBlock ∧ k_ ≠ gb2324 ∧ k_ ≠ gb2331 ∧ k_ ≠ gb2345 ∧ k_ ≠ gb2352) (.slice Ao63 t2334.length co63) t2334) := ⟨qh0_⟩
           replace BK2294 := fl_ qe_ BK2294
           replace BK2302 := fl_ qe_ BK2302
           replace BK2310 := fl_ qe_ BK2310
           replace BK2317 := fl_ qe_ BK2317
           replace BK2324 := fl_ qe_ BK2324
           replace BK2331 := fl_ qe_ BK2331
           replace BK2338 := fl_ qe_ BK2338
           replace BK2345 := fl_ qe_ BK2345
           replace BK2352 : Aside0 (w107.heap[gb2352]? = some (.cells #[.int .i64 t2346, .string t2347, .string t2348, .int .i64 t2349, .int .i64 t2350] 69 (0, 0))) := ⟨qh26_⟩
           replace HB : Aside0 (Below w.heap.size w w107) := ⟨by rw [qe_]; exact hb_ HB.out⟩
           clear qe_
           replace HO2289 := Aside0.mk (Kd.R_drew HO2289.out)
           replace HO2299 := Aside0.mk (Kd.R_drew HO2299.out)
           replace HO2307 := Aside0.mk (Kd.R_drew HO2307.out)
           replace HO2315 := Aside0.mk (Kd.R_drew HO2315.out)
           replace HO2336 := Aside0.mk (Kd.R_drew HO2336.out)
           replace BK2294 := Aside0.mk (blk_drew BK2294.out)
           replace BK2302 := Aside0.mk (blk_drew BK2302.out)
           replace BK2310 := Aside0.mk (blk_drew BK2310.out)
           replace BK2317 := Aside0.mk (blk_drew BK2317.out)
           replace BK2324 := Aside0.mk (blk_drew BK2324.out)
           replace BK2331 := Aside0.mk (blk_drew BK2331.out)
           replace BK2338 := Aside0.mk (blk_drew BK2338.out)
           replace BK2345 := Aside0.mk (blk_drew BK2345.out)
           replace BK2352 := Aside0.mk (blk_drew BK2352.out)
           replace HB := Aside0.mk (below_drew1 HB.out)
           refine start_ (n := 41) (S := fun w' => w'.cell? ⟨gb2302, 0, none⟩ = some (.int .i64 t2295) ∧ w'.cell? ⟨gb2302, 1, none⟩ = some (.int .i64 t2296) ∧ w'.cell? ⟨gb2302, 2, none⟩ = some (.slice Ao23 t2297.length co23) ∧ w'.cell? ⟨gb2310, 0, none⟩ = some (.int .i64 t2303) ∧ w'.cell? ⟨gb2310, 1, none⟩ = some (.int .i64 t2304) ∧ w'.cell? ⟨gb2310, 2, none⟩ = some (.slice Ao30 t2305.length co30) ∧ w'.cell? ⟨gb2324, 0, none⟩ = some (.int .i64 t2318) ∧ w'.cell? ⟨gb2324, 1, none⟩ = some (.string t2319) ∧ w'.cell? ⟨gb2324, 2, none⟩ = some (.string t2320) ∧ w'.cell? ⟨gb2324, 3, none⟩ = some (.int .i64 t2321) ∧ w'.cell? ⟨gb2324, 4, none⟩ = some (.int .i64 t2322) ∧ w'.cell? ⟨gb2331, 0, none⟩ = some (.int .i64 t2325) ∧ w'.cell? ⟨gb2331, 1, none⟩ = some (.string t2326) ∧ w'.cell? ⟨gb2331, 2, none⟩ = some (.string t2327) ∧ w'.cell? ⟨gb2331, 3, none⟩ = some (.int .i64 t2328) ∧ w'.cell? ⟨gb2331, 4, none⟩ = some (.int .i64 t2329) ∧ w'.cell? ⟨gb2345, 0, none⟩ = some (.int .i64 t2339) ∧ w'.cell? ⟨gb2345, 1, none⟩ = some (.string t2340) ∧ w'.cell? ⟨gb2345, 2, none⟩ = some (.string t2341) ∧ w'.cell? ⟨gb2345, 3, none⟩ = some (.int .i64 t2342) ∧ w'.cell? ⟨gb2345, 4, none⟩ = some (.int .i64 t2343) ∧ w'.cell? ⟨gb2352, 0, none⟩ = some (.int .i64 t2346) ∧ w'.cell? ⟨gb2352, 1, none⟩ = some (.string t2347) ∧ w'.cell? ⟨gb2352, 2, none⟩ = some (.string t2348) ∧ w'.cell? ⟨gb2352, 3, none⟩ = some (.int .i64 t2349) ∧ w'.cell? ⟨gb2352, 4, none⟩ = some (.int .i64 t2350) ∧ w'.cell? ⟨gb2294, 0, none⟩ = some (.int .i64 t2285) ∧ w'.cell? ⟨gb2294, 1, none⟩ = some (.int .i64 t2286) ∧ w'.cell? ⟨gb2294, 2, none⟩ = some (.slice Ao18 t2287.length co18)) (ds := []) laws_FnRows.m0 (by kernel_rfl) rfl rfl ⟨bc_ BK2302 0, bc_ BK2302 1, bc_ BK2302 2, bc_ BK2310 0, bc_ BK2310 1, bc_ BK2310 2, bc_ BK2324 0, bc_ BK2324 1, bc_ BK2324 2, bc_ BK2324 3, bc_ BK2324 4, bc_ BK2331 0, bc_ BK2331 1, bc_ BK2331 2, bc_ BK2331 3, bc_ BK2331 4, bc_ BK2345 0, bc_ BK2345 1, bc_ BK2345 2, bc_ BK2345 3, bc_ BK2345 4, bc_ BK2352 0, bc_ BK2352 1, bc_ BK2352 2, bc_ BK2352 3, bc_ BK2352 4, bc_ BK2294 0, bc_ BK2294 1, bc_ BK2294 2⟩ (fun hHeld => ?_); refine with_tabW laws_FnRows.tab12 laws_FnRows.bits12 (fun HT_ HW_ => ?_)
           generalize w107.drew = w108 at HO2289 HO2299 HO2307 HO2315 HO2336 BK2294 BK2302 BK2310 BK2317 BK2324 BK2331 BK2338 BK2345 BK2352 HB hHeld ⊢
           refine pI_ 0 97 HT_ laws_FnRows.m1 rfl rfl ?_
           refine pI_ 1 98 HT_ laws_FnRows.m2 rfl rfl ?_
           refine pI_ 2 99 HT_ laws_FnRows.m3 rfl rfl ?_
           refine pI_ 3 100 HT_ laws_FnRows.m4 rfl rfl ?_
           refine pI_ 4 101 HT_ laws_FnRows.m5 rfl rfl ?_
           refine pI_ 5 102 HT_ laws_FnRows.m6 rfl rfl ?_
           refine pI_ 6 103 HT_ laws_FnRows.m7 rfl rfl ?_
           refine pI_ 7 104 HT_ laws_FnRows.m8 rfl rfl ?_
           refine pI_ 8 105 HT_ laws_FnRows.m9 rfl rfl ?_
           refine tk_ 9 106 HT_ HW_ laws_FnRows.m10 rfl rfl hHeld ?_
           refine tk_ 10 107 HT_ HW_ laws_FnRows.m11 rfl rfl hHeld ?_
           refine on_ 11 108 HT_ laws_FnRows.m12 rfl rfl (fun K hK => ?_)
           refine goes_ Try.func43 (by kernel_rfl) rfl #[.agg #[.int .i64 t2295, .int .i64 t2296, .slice Ao23 t2297.length co23], .agg #[.int .i64 t2303, .int .i64 t2304, .slice Ao30 t2305.length co30]] (by rfl) rfl rfl sm_ ?_
           with_reducible refine (laws_sameRow.calls kj2 t2295 t2296 _ _ t2297 t2303 t2304 _ _ t2305 true _ ?side1 ?side2 ?side3 ?side4 A90.out).mono ?_
           (case side1 => repeat (first | exact (Kd.R_reads' HO2299.out).2.2 | (with_reducible refine Kd.C_alloc ?_ _) | (with_reducible refine Kd.C_drewN ?_ _) | (with_reducible refine Kd.C_drew ?_)))
           (case side2 => exact (Kd.R_reads' HO2299.out).2.1)
           (case side3 => repeat (first | exact (Kd.R_reads' HO2307.out).2.2 | (with_reducible refine Kd.C_alloc ?_ _) | (with_reducible refine Kd.C_drewN ?_ _) | (with_reducible refine Kd.C_drew ?_)))
           (case side4 => exact (Kd.R_reads' HO2307.out).2.1)
           rintro e w109 ⟨rfl, hb⟩
           refine ⟨_, rfl, ?_⟩
           replace HO2289 := cr_ HO2289 hb
           replace HO2299 := cr_ HO2299 hb
           replace HO2307 := cr_ HO2307 hb
           replace HO2315 := cr_ HO2315 hb
           replace HO2336 := cr_ HO2336 hb
           replace BK2294 := cb_ BK2294 hb
           replace BK2302 := cb_ BK2302 hb
           replace BK2310 := cb_ BK2310 hb
           replace BK2317 := cb_ BK2317 hb
           replace BK2324 := cb_ BK2324 hb
           replace BK2331 := cb_ BK2331 hb
           replace BK2338 := cb_ BK2338 hb
           replace BK2345 := cb_ BK2345 hb
           replace BK2352 := cb_ BK2352 hb
           replace HB := ch_ HB hb
           (try clear hb); (try clear hb2); (try clear hk); (try clear hi)
           refine hK.out _ _ ⟨bc_ BK2302 0, bc_ BK2302 1, bc_ BK2302 2, bc_ BK2310 0, bc_ BK2310 1, bc_ BK2310 2, bc_ BK2324 0, bc_ BK2324 1, bc_ BK2324 2, bc_ BK2324 3, bc_ BK2324 4, bc_ BK2331 0, bc_ BK2331 1, bc_ BK2331 2, bc_ BK2331 3, bc_ BK2331 4, bc_ BK2345 0, bc_ BK2345 1, bc_ BK2345 2, bc_ BK2345 3, bc_ BK2345 4, bc_ BK2352 0, bc_ BK2352 1, bc_ BK2352 2, bc_ BK2352 3, bc_ BK2352 4, bc_ BK2294 0, bc_ BK2294 1, bc_ BK2294 2⟩ (fun hHeld => ?_)
           clear hK K
           refine nm_ ?_
           refine pI_ 12 109 HT_ laws_FnRows.m13 rfl rfl ?_
           refine pI_ 13 110 HT_ laws_FnRows.m14 rfl rfl ?_
           refine pI_ 14 111 HT_ laws_FnRows.m15 rfl rfl ?_
           refine tk_ 15 112 HT_ HW_ laws_FnRows.m16 rfl rfl hHeld ?_
           refine tk_ 16 113 HT_ HW_ laws_FnRows.m17 rfl rfl hHeld ?_
           refine pI_ 17 114 HT_ laws_FnRows.m18 rfl rfl ?_
           refine pI_ 18 115 HT_ laws_FnRows.m19 rfl rfl ?_
           refine pI_ 19 116 HT_ laws_FnRows.m20 rfl rfl ?_
           refine pI_ 20 117 HT_ laws_FnRows.m21 rfl rfl ?_
           refine pI_ 21 118 HT_ laws_FnRows.m22 rfl rfl ?_
           refine pI_ 22 119 HT_ laws_FnRows.m23 rfl rfl ?_
           refine pI_ 23 120 HT_ laws_FnRows.m24 rfl rfl ?_
           refine pI_ 24 121 HT_ laws_FnRows.m25 rfl rfl ?_
           refine tk_ 25 122 HT_ HW_ laws_FnRows.m26 rfl rfl hHeld ?_
           refine tk_ 26 123 HT_ HW_ laws_FnRows.m27 rfl rfl hHeld ?_
           refine pI_ 27 124 HT_ laws_FnRows.m28 rfl rfl ?_
           refine pI_ 28 125 HT_ laws_FnRows.m29 rfl rfl ?_
           refine pI_ 29 126 HT_ laws_FnRows.m30 rfl rfl ?_
           refine pI_ 30 127 HT_ laws_FnRows.m31 rfl rfl ?_
           refine pI_ 31 128 HT_ laws_FnRows.m32 rfl rfl ?_
           refine pI_ 32 129 HT_ laws_FnRows.m33 rfl rfl ?_
           refine pI_ 33 130 HT_ laws_FnRows.m34 rfl rfl ?_
           refine pI_ 34 131 HT_ laws_FnRows.m35 rfl rfl ?_
           refine tk_ 35 132 HT_ HW_ laws_FnRows.m36 rfl rfl hHeld ?_
           refine tk_ 37 134 HT_ HW_ #[true, true, true, true, true, true, true, true, true, true, true, true, true, true, true, true, true, true, true, true, true, true, true, true, true, true, true, true, true, true, true, true, true, true, true, true, false, true, false, false, false] rfl rfl hHeld ?_
           refine on_ 36 133 HT_ laws_FnRows.m38 rfl rfl (fun K hK => ?_)
           refine goes_ Try.func44 (by kernel_rfl) rfl #[.agg #[.int .i64 t2285, .int .i64 t2286, .slice Ao18 t2287.length co18]] (by rfl) rfl rfl sm_ ?_
           with_reducible refine (impl_RowOk.calls kj2 t2285 t2286 _ _ t2287 t2354 _ ?side1 ?side2 A105.out).mono ?_
           (case side1 => repeat (first | exact (Kd.R_reads' HO2289.out).2.2 | (with_reducible refine Kd.C_alloc ?_ _) | (with_reducible refine Kd.C_drewN ?_ _) | (with_reducible refine Kd.C_drew ?_)))
           (case side2 => exact (Kd.R_reads' HO2289.out).2.1)
           rintro e w110 ⟨rfl, hb⟩
           refine ⟨_, rfl, ?_⟩
           replace HO2289 := cr_ HO2289 hb
           replace HO2299 := cr_ HO2299 hb
           replace HO2307 := cr_ HO2307 hb
           replace HO2315 := cr_ HO2315 hb
           replace HO2336 := cr_ HO2336 hb
           replace BK2294 := cb_ BK2294 hb
           replace BK2302 := cb_ BK2302 hb
           replace BK2310 := cb_ BK2310 hb
           replace BK2317 := cb_ BK2317 hb
           replace BK2324 := cb_ BK2324 hb
           replace BK2331 := cb_ BK2331 hb
           replace BK2338 := cb_ BK2338 hb
           replace BK2345 := cb_ BK2345 hb
           replace BK2352 := cb_ BK2352 hb
           replace HB := ch_ HB hb
           (try clear hb)
           refine hK.out _ _ ⟨bc_ BK2302 0, bc_ BK2302 1, bc_ BK2302 2, bc_ BK2310 0, bc_ BK2310 1, bc_ BK2310 2, bc_ BK2324 0, bc_ BK2324 1, bc_ BK2324 2, bc_ BK2324 3, bc_ BK2324 4, bc_ BK2331 0, bc_ BK2331 1, bc_ BK2331 2, bc_ BK2331 3, bc_ BK2331 4, bc_ BK2345 0, bc_ BK2345 1, bc_ BK2345 2, bc_ BK2345 3, bc_ BK2345 4, bc_ BK2352 0, bc_ BK2352 1, bc_ BK2352 2, bc_ BK2352 3, bc_ BK2352 4, bc_ BK2294 0, bc_ BK2294 1, bc_ BK2294 2⟩ (fun hHeld => ?_)
           clear hK K
           refine nm_ ?_
           refine on_ 38 135 HT_ laws_FnRows.m39 rfl rfl (fun K hK => ?_)
           refine goes_ Try.func45 (by kernel_rfl) rfl #[.agg #[.int .i64 t2285, .int .i64 t2286, .slice Ao18 t2287.length co18]] (by rfl) rfl rfl sm_ ?_
           with_reducible refine (spec_RowOk.calls kj2 t2285 t2286 _ _ t2287 t2355 _ ?side1 ?side2 A106.out).mono ?_
           (case side1 => repeat (first | exact (Kd.R_reads' HO2289.out).2.2 | (with_reducible refine Kd.C_alloc ?_ _) | (with_reducible refine Kd.C_drewN ?_ _) | (with_reducible refine Kd.C_drew ?_)))
           (case side2 => exact (Kd.R_reads' HO2289.out).2.1)
           rintro e w111 ⟨rfl, hb⟩
           refine ⟨_, rfl, ?_⟩
           replace HO2289 := cr_ HO2289 hb
           replace HO2299 := cr_ HO2299 hb
           replace HO2307 := cr_ HO2307 hb
           replace HO2315 := cr_ HO2315 hb
           replace HO2336 := cr_ HO2336 hb
           replace BK2294 := cb_ BK2294 hb
           replace BK2302 := cb_ BK2302 hb
           replace BK2310 := cb_ BK2310 hb
           replace BK2317 := cb_ BK2317 hb
           replace BK2324 := cb_ BK2324 hb
           replace BK2331 := cb_ BK2331 hb
           replace BK2338 := cb_ BK2338 hb
           replace BK2345 := cb_ BK2345 hb
           replace BK2352 := cb_ BK2352 hb
           replace HB := ch_ HB hb
           (try clear hb)
           refine hK.out _ _ ⟨bc_ BK2302 0, bc_ BK2302 1, bc_ BK2302 2, bc_ BK2310 0, bc_ BK2310 1, bc_ BK2310 2, bc_ BK2324 0, bc_ BK2324 1, bc_ BK2324 2, bc_ BK2324 3, bc_ BK2324 4, bc_ BK2331 0, bc_ BK2331 1, bc_ BK2331 2, bc_ BK2331 3, bc_ BK2331 4, bc_ BK2345 0, bc_ BK2345 1, bc_ BK2345 2, bc_ BK2345 3, bc_ BK2345 4, bc_ BK2352 0, bc_ BK2352 1, bc_ BK2352 2, bc_ BK2352 3, bc_ BK2352 4, bc_ BK2294 0, bc_ BK2294 1, bc_ BK2294 2⟩ (fun hHeld => ?_)
           clear hK K
           refine nm_ ?_
           refine pI_ 39 136 HT_ laws_FnRows.m40 rfl rfl ?_
           refine pI_ 40 137 HT_ laws_FnRows.m41 rfl rfl ?_
           refine done_ (done_of HT_.out (by kernel_rfl)) ?_
           try go_wp2
           go_meet
           case rel => exact ⟨_, ((t2354 != t2355)), (qh15_), H', ⟨qh25_⟩, ⟨rq_ HO2289.out⟩, ⟨rq_ HO2299.out⟩, ⟨rq_ HO2307.out⟩, ⟨rq_ HO2315.out⟩, ⟨rq_ HO2336.out⟩, ⟨bq_ BK2294.out⟩, ⟨bq_ BK2302.out⟩, ⟨bq_ BK2310.out⟩, ⟨bq_ BK2317.out⟩, ⟨bq_ BK2324.out⟩, ⟨bq_ BK2331.out⟩, ⟨bq_ BK2338.out⟩, ⟨bq_ BK2345.out⟩, ⟨bq_ BK2352.out⟩, ⟨hb_ HB.out⟩⟩
        ·
         as_aux_lemma =>
         rw [if_neg c96] at H
         have c96b0 : (t2323 == t2330) = false := beq_eq_false_iff_ne.mpr c96
         have c96b1 : (t2323 != t2330) = true := bne_iff_ne.mpr c96
         have H' := Aside0.mk H
         clear H
         try go_wp2
         obtain ⟨w112, qe_⟩ : ∃ x_, x_ = (((((w76.setCell ⟨gb2352, 0, none⟩ (.int .i64 t2346)).setCell ⟨gb2352, 1, none⟩ (.string t2347)).setCell ⟨gb2352, 2, none⟩ (.string t2348)).setCell ⟨gb2352, 3, none⟩ (.int .i64 t2349)).setCell ⟨gb2352, 4, none⟩ (.int .i64 t2350)) := ⟨_, rfl⟩
         rw [← qe_]
         replace HO2289 : Aside0 (Kd.R k_Item 69 w112 w.heap.size (fun k_ => some k_ ≠ (.slice Ao23 t2297.length co23 : Value).ownBlock ∧ some k_ ≠ (.slice Ao30 t2305.length co30 : Value).ownBlock ∧ some k_ ≠ (.slice Ao37 t2313.length co37 : Value).ownBlock ∧ some k_ ≠ (.slice Ao63 t2334.length co63 : Value).ownBlock ∧ k_ ≠ gb2324 ∧ k_ ≠ gb2331 ∧ k_ ≠ gb2345 ∧ k_ ≠ gb2352) (.slice Ao18 t2287.length co18) t2287) := ⟨qh4_⟩
         replace HO2299 : Aside0 (Kd.R k_Item 69 w112 w.heap.size (fun k_ => some k_ ≠ (.slice Ao18 t2287.length co18 : Value).ownBlock ∧ some k_ ≠ (.slice Ao30 t2305.length co30 : Value).ownBlock ∧ some k_ ≠ (.slice Ao37 t2313.length co37 : Value).ownBlock ∧ some k_ ≠ (.slice Ao63 t2334.length co63 : Value).ownBlock ∧ k_ ≠ gb2324 ∧ k_ ≠ gb2331 ∧ k_ ≠ gb2345 ∧ k_ ≠ gb2352) (.slice Ao23 t2297.length co23) t2297) := ⟨qh3_⟩
         replace HO2307 : Aside0 (Kd.R k_Item 69 w112 w.heap.size (fun k_ => some k_ ≠ (.slice Ao18 t2287.length co18 : Value).ownBlock ∧ some k_ ≠ (.slice Ao23 t2297.length co23 : Value).ownBlock ∧ some k_ ≠ (.slice Ao37 t2313.length co37 : Value).ownBlock ∧ some k_ ≠ (.slice Ao63 t2334.length co63 : Value).ownBlock ∧ k_ ≠ gb2324 ∧ k_ ≠ gb2331 ∧ k_ ≠ gb2345 ∧ k_ ≠ gb2352) (.slice Ao30 t2305.length co30) t2305) := ⟨qh2_⟩
         replace HO2315 : Aside0 (Kd.R k_Item 69 w112 w.heap.size (fun k_ => some k_ ≠ (.slice Ao18 t2287.length co18 : Value).ownBlock ∧ some k_ ≠ (.slice Ao23 t2297.length co23 : Value).ownBlock ∧ some k_ ≠ (.slice Ao30 t2305.length co30 : Value).ownBlock ∧ some k_ ≠ (.slice Ao63 t2334.length co63 : Value).ownBlock ∧ k_ ≠ gb2324 ∧ k_ ≠ gb2331 ∧ k_ ≠ gb2345 ∧ k_ ≠ gb2352) (.slice Ao37 t2313.length co37) t2313) := ⟨qh1_⟩
         replace HO2336 : Aside0 (Kd.R k_Item 69 w112 w.heap.size (fun k_ => some k_ ≠ (.slice Ao18 t2287.length co18 : Value).ownBlock ∧ some k_ ≠ (.slice Ao23 t2297.length co23 : Value).ownBlock ∧ some k_ ≠ (.slice Ao30 t2305.length co30 : Value).ownBlock ∧ some k_ ≠ (.slice Ao37 t2313.length co37 : Value).ownBlock ∧ k_ ≠ gb2324 ∧ k_ ≠ gb2331 ∧ k_ ≠ gb2345 ∧ k_ ≠ gb2352) (.slice Ao63 t2334.length co63) t2334) := ⟨qh0_⟩
         replace BK2294 := fl_ qe_ BK2294
         replace BK2302 := fl_ qe_ BK2302
         replace BK2310 := fl_ qe_ BK2310
         replace BK2317 := fl_ qe_ BK2317
         replace BK2324 := fl_ qe_ BK2324
         replace BK2331 := fl_ qe_ BK2331
         replace BK2338 := fl_ qe_ BK2338
         replace BK2345 := fl_ qe_ BK2345
         replace BK2352 : Aside0 (w112.heap[gb2352]? = some (.cells #[.int .i64 t2346, .string t2347, .string t2348, .int .i64 t2349, .int .i64 t2350] 69 (0, 0))) := ⟨qh26_⟩
         replace HB : Aside0 (Below w.heap.size w w112) := ⟨by rw [qe_]; exact hb_ HB.out⟩
         clear qe_
         replace HO2289 := Aside0.mk (Kd.R_drew HO2289.out)
         replace HO2299 := Aside0.mk (Kd.R_drew HO2299.out)
         replace HO2307 := Aside0.mk (Kd.R_drew HO2307.out)
         replace HO2315 := Aside0.mk (Kd.R_drew HO2315.out)
         replace HO2336 := Aside0.mk (Kd.R_drew HO2336.out)
         replace BK2294 := Aside0.mk (blk_drew BK2294.out)
         replace BK2302 := Aside0.mk (blk_drew BK2302.out)
         replace BK2310 := Aside0.mk (blk_drew BK2310.out)
         replace BK2317 := Aside0.mk (blk_drew BK2317.out)
         replace BK2324 := Aside0.mk (blk_drew BK2324.out)
         replace BK2331 := Aside0.mk (blk_drew BK2331.out)
         replace BK2338 := Aside0.mk (blk_drew BK2338.out)
         replace BK2345 := Aside0.mk (blk_drew BK2345.out)
         replace BK2352 := Aside0.mk (blk_drew BK2352.out)
         replace HB := Aside0.mk (below_drew1 HB.out)
         refine start_ (n := 41) (S := fun w' => w'.cell? ⟨gb2302, 0, none⟩ = some (.int .i64 t2295) ∧ w'.cell? ⟨gb2302, 1, none⟩ = some (.int .i64 t2296) ∧ w'.cell? ⟨gb2302, 2, none⟩ = some (.slice Ao23 t2297.length co23) ∧ w'.cell? ⟨gb2310, 0, none⟩ = some (.int .i64 t2303) ∧ w'.cell? ⟨gb2310, 1, none⟩ = some (.int .i64 t2304) ∧ w'.cell? ⟨gb2310, 2, none⟩ = some (.slice Ao30 t2305.length co30) ∧ w'.cell? ⟨gb2324, 0, none⟩ = some (.int .i64 t2318) ∧ w'.cell? ⟨gb2324, 1, none⟩ = some (.string t2319) ∧ w'.cell? ⟨gb2324, 2, none⟩ = some (.string t2320) ∧ w'.cell? ⟨gb2324, 3, none⟩ = some (.int .i64 t2321) ∧ w'.cell? ⟨gb2324, 4, none⟩ = some (.int .i64 t2322) ∧ w'.cell? ⟨gb2331, 0, none⟩ = some (.int .i64 t2325) ∧ w'.cell? ⟨gb2331, 1, none⟩ = some (.string t2326) ∧ w'.cell? ⟨gb2331, 2, none⟩ = some (.string t2327) ∧ w'.cell? ⟨gb2331, 3, none⟩ = some (.int .i64 t2328) ∧ w'.cell? ⟨gb2331, 4, none⟩ = some (.int .i64 t2329)) (ds := []) laws_FnRows.m0 (by kernel_rfl) rfl rfl ⟨bc_ BK2302 0, bc_ BK2302 1, bc_ BK2302 2, bc_ BK2310 0, bc_ BK2310 1, bc_ BK2310 2, bc_ BK2324 0, bc_ BK2324 1, bc_ BK2324 2, bc_ BK2324 3, bc_ BK2324 4, bc_ BK2331 0, bc_ BK2331 1, bc_ BK2331 2, bc_ BK2331 3, bc_ BK2331 4⟩ (fun hHeld => ?_); refine with_tabW laws_FnRows.tab12 laws_FnRows.bits12 (fun HT_ HW_ => ?_)
         generalize w112.drew = w113 at HO2289 HO2299 HO2307 HO2315 HO2336 BK2294 BK2302 BK2310 BK2317 BK2324 BK2331 BK2338 BK2345 BK2352 HB hHeld ⊢
         refine pI_ 0 97 HT_ laws_FnRows.m1 rfl rfl ?_
         refine pI_ 1 98 HT_ laws_FnRows.m2 rfl rfl ?_
         refine pI_ 2 99 HT_ laws_FnRows.m3 rfl rfl ?_
         refine pI_ 3 100 HT_ laws_FnRows.m4 rfl rfl ?_
         refine pI_ 4 101 HT_ laws_FnRows.m5 rfl rfl ?_
         refine pI_ 5 102 HT_ laws_FnRows.m6 rfl rfl ?_
         refine pI_ 6 103 HT_ laws_FnRows.m7 rfl rfl ?_
         refine pI_ 7 104 HT_ laws_FnRows.m8 rfl rfl ?_
         refine pI_ 8 105 HT_ laws_FnRows.m9 rfl rfl ?_
         refine tk_ 9 106 HT_ HW_ laws_FnRows.m10 rfl rfl hHeld ?_
         refine tk_ 10 107 HT_ HW_ laws_FnRows.m11 rfl rfl hHeld ?_
         refine on_ 11 108 HT_ laws_FnRows.m12 rfl rfl (fun K hK => ?_)
         refine goes_ Try.func43 (by kernel_rfl) rfl #[.agg #[.int .i64 t2295, .int .i64 t2296, .slice Ao23 t2297.length co23], .agg #[.int .i64 t2303, .int .i64 t2304, .slice Ao30 t2305.length co30]] (by rfl) rfl rfl sm_ ?_
         with_reducible refine (laws_sameRow.calls kj2 t2295 t2296 _ _ t2297 t2303 t2304 _ _ t2305 true _ ?side1 ?side2 ?side3 ?side4 A90.out).mono ?_
         (case side1 => repeat (first | exact (Kd.R_reads' HO2299.out).2.2 | (with_reducible refine Kd.C_alloc ?_ _) | (with_reducible refine Kd.C_drewN ?_ _) | (with_reducible refine Kd.C_drew ?_)))
         (case side2 => exact (Kd.R_reads' HO2299.out).2.1)
         (case side3 => repeat (first | exact (Kd.R_reads' HO2307.out).2.2 | (with_reducible refine Kd.C_alloc ?_ _) | (with_reducible refine Kd.C_drewN ?_ _) | (with_reducible refine Kd.C_drew ?_)))
         (case side4 => exact (Kd.R_reads' HO2307.out).2.1)
         rintro e w114 ⟨rfl, hb⟩
         refine ⟨_, rfl, ?_⟩
         replace HO2289 := cr_ HO2289 hb
         replace HO2299 := cr_ HO2299 hb
         replace HO2307 := cr_ HO2307 hb
         replace HO2315 := cr_ HO2315 hb
         replace HO2336 := cr_ HO2336 hb
         replace BK2294 := cb_ BK2294 hb
         replace BK2302 := cb_ BK2302 hb
         replace BK2310 := cb_ BK2310 hb
         replace BK2317 := cb_ BK2317 hb
         replace BK2324 := cb_ BK2324 hb
         replace BK2331 := cb_ BK2331 hb
         replace BK2338 := cb_ BK2338 hb
         replace BK2345 := cb_ BK2345 hb
         replace BK2352 := cb_ BK2352 hb
         replace HB := ch_ HB hb
         (try clear hb); (try clear hb2); (try clear hk); (try clear hi)
         refine hK.out _ _ ⟨bc_ BK2302 0, bc_ BK2302 1, bc_ BK2302 2, bc_ BK2310 0, bc_ BK2310 1, bc_ BK2310 2, bc_ BK2324 0, bc_ BK2324 1, bc_ BK2324 2, bc_ BK2324 3, bc_ BK2324 4, bc_ BK2331 0, bc_ BK2331 1, bc_ BK2331 2, bc_ BK2331 3, bc_ BK2331 4⟩ (fun hHeld => ?_)
         clear hK K
         refine nm_ ?_
         refine pI_ 12 109 HT_ laws_FnRows.m13 rfl rfl ?_
         refine pI_ 13 110 HT_ laws_FnRows.m14 rfl rfl ?_
         refine pI_ 14 111 HT_ laws_FnRows.m15 rfl rfl ?_
         refine tk_ 15 112 HT_ HW_ laws_FnRows.m16 rfl rfl hHeld ?_
         refine tk_ 16 113 HT_ HW_ laws_FnRows.m17 rfl rfl hHeld ?_
         refine pI_ 17 114 HT_ laws_FnRows.m18 rfl rfl ?_
         refine pI_ 18 115 HT_ laws_FnRows.m19 rfl rfl ?_
         refine pI_ 19 116 HT_ laws_FnRows.m20 rfl rfl ?_
         refine pI_ 20 117 HT_ laws_FnRows.m21 rfl rfl ?_
         refine pI_ 21 118 HT_ laws_FnRows.m22 rfl rfl ?_
         refine pI_ 22 119 HT_ laws_FnRows.m23 rfl rfl ?_
         refine pI_ 23 120 HT_ laws_FnRows.m24 rfl rfl ?_
         refine pI_ 24 121 HT_ laws_FnRows.m25 rfl rfl ?_
         refine pU_ 25 122 HT_ laws_FnRows.m26 rfl rfl ?_
         refine pU_ 26 123 HT_ laws_FnRows.m27 rfl rfl ?_
         refine pU_ 27 124 HT_ laws_FnRows.m28 rfl rfl ?_
         refine pI_ 28 125 HT_ laws_FnRows.m29 rfl rfl ?_
         refine pI_ 29 126 HT_ laws_FnRows.m30 rfl rfl ?_
         refine pU_ 30 127 HT_ laws_FnRows.m31 rfl rfl ?_
         refine pU_ 31 128 HT_ laws_FnRows.m32 rfl rfl ?_
         refine pU_ 32 129 HT_ laws_FnRows.m33 rfl rfl ?_
         refine pI_ 33 130 HT_ laws_FnRows.m34 rfl rfl ?_
         refine pI_ 34 131 HT_ laws_FnRows.m35 rfl rfl ?_
         refine pU_ 35 132 HT_ laws_FnRows.m36 rfl rfl ?_
         refine pU_ 36 133 HT_ laws_FnRows.m37 rfl rfl ?_
         refine pU_ 37 134 HT_ laws_FnRows.m38 rfl rfl ?_
         refine pU_ 38 135 HT_ laws_FnRows.m39 rfl rfl ?_
         refine pU_ 39 136 HT_ laws_FnRows.m40 rfl rfl ?_
         refine pI_ 40 137 HT_ laws_FnRows.m41 rfl rfl ?_
         refine done_ (done_of HT_.out (by kernel_rfl)) ?_
         try go_wp2
         go_meet
         case rel => exact ⟨_, (true), (qh15_), H', ⟨qh25_⟩, ⟨rq_ HO2289.out⟩, ⟨rq_ HO2299.out⟩, ⟨rq_ HO2307.out⟩, ⟨rq_ HO2315.out⟩, ⟨rq_ HO2336.out⟩, ⟨bq_ BK2294.out⟩, ⟨bq_ BK2302.out⟩, ⟨bq_ BK2310.out⟩, ⟨bq_ BK2317.out⟩, ⟨bq_ BK2324.out⟩, ⟨bq_ BK2331.out⟩, ⟨bq_ BK2338.out⟩, ⟨bq_ BK2345.out⟩, ⟨bq_ BK2352.out⟩, ⟨hb_ HB.out⟩⟩
      ·
       as_aux_lemma =>
       replace c91 := Bool.eq_false_iff.mpr c91
       subst c91
       have H1 : (laws_FnRows.j1 kj2 t2290 t2291 t2300 t2301 true t2285 t2286 t2287 t2295 t2296 t2297) = some r := by rw [if_neg (show ¬ (false = true) by decide)] at H; exact H
       clear H
       have H := H1
       clear H1
       have H' := Aside0.mk H
       clear H
       try go_wp2
       obtain ⟨w115, qe_⟩ : ∃ x_, x_ = (((((w76.setCell ⟨gb2352, 0, none⟩ (.int .i64 t2346)).setCell ⟨gb2352, 1, none⟩ (.string t2347)).setCell ⟨gb2352, 2, none⟩ (.string t2348)).setCell ⟨gb2352, 3, none⟩ (.int .i64 t2349)).setCell ⟨gb2352, 4, none⟩ (.int .i64 t2350)) := ⟨_, rfl⟩
       rw [← qe_]
       replace HO2289 : Aside0 (Kd.R k_Item 69 w115 w.heap.size (fun k_ => some k_ ≠ (.slice Ao23 t2297.length co23 : Value).ownBlock ∧ some k_ ≠ (.slice Ao30 t2305.length co30 : Value).ownBlock ∧ some k_ ≠ (.slice Ao37 t2313.length co37 : Value).ownBlock ∧ some k_ ≠ (.slice Ao63 t2334.length co63 : Value).ownBlock ∧ k_ ≠ gb2324 ∧ k_ ≠ gb2331 ∧ k_ ≠ gb2345 ∧ k_ ≠ gb2352) (.slice Ao18 t2287.length co18) t2287) := ⟨qh4_⟩
       replace HO2299 : Aside0 (Kd.R k_Item 69 w115 w.heap.size (fun k_ => some k_ ≠ (.slice Ao18 t2287.length co18 : Value).ownBlock ∧ some k_ ≠ (.slice Ao30 t2305.length co30 : Value).ownBlock ∧ some k_ ≠ (.slice Ao37 t2313.length co37 : Value).ownBlock ∧ some k_ ≠ (.slice Ao63 t2334.length co63 : Value).ownBlock ∧ k_ ≠ gb2324 ∧ k_ ≠ gb2331 ∧ k_ ≠ gb2345 ∧ k_ ≠ gb2352) (.slice Ao23 t2297.length co23) t2297) := ⟨qh3_⟩
       replace HO2307 : Aside0 (Kd.R k_Item 69 w115 w.heap.size (fun k_ => some k_ ≠ (.slice Ao18 t2287.length co18 : Value).ownBlock ∧ some k_ ≠ (.slice Ao23 t2297.length co23 : Value).ownBlock ∧ some k_ ≠ (.slice Ao37 t2313.length co37 : Value).ownBlock ∧ some k_ ≠ (.slice Ao63 t2334.length co63 : Value).ownBlock ∧ k_ ≠ gb2324 ∧ k_ ≠ gb2331 ∧ k_ ≠ gb2345 ∧ k_ ≠ gb2352) (.slice Ao30 t2305.length co30) t2305) := ⟨qh2_⟩
       replace HO2315 : Aside0 (Kd.R k_Item 69 w115 w.heap.size (fun k_ => some k_ ≠ (.slice Ao18 t2287.length co18 : Value).ownBlock ∧ some k_ ≠ (.slice Ao23 t2297.length co23 : Value).ownBlock ∧ some k_ ≠ (.slice Ao30 t2305.length co30 : Value).ownBlock ∧ some k_ ≠ (.slice Ao63 t2334.length co63 : Value).ownBlock ∧ k_ ≠ gb2324 ∧ k_ ≠ gb2331 ∧ k_ ≠ gb2345 ∧ k_ ≠ gb2352) (.slice Ao37 t2313.length co37) t2313) := ⟨qh1_⟩
       replace HO2336 : Aside0 (Kd.R k_Item 69 w115 w.heap.size (fun k_ => some k_ ≠ (.slice Ao18 t2287.length co18 : Value).ownBlock ∧ some k_ ≠ (.slice Ao23 t2297.length co23 : Value).ownBlock ∧ some k_ ≠ (.slice Ao30 t2305.length co30 : Value).ownBlock ∧ some k_ ≠ (.slice Ao37 t2313.length co37 : Value).ownBlock ∧ k_ ≠ gb2324 ∧ k_ ≠ gb2331 ∧ k_ ≠ gb2345 ∧ k_ ≠ gb2352) (.slice Ao63 t2334.length co63) t2334) := ⟨qh0_⟩
       replace BK2294 := fl_ qe_ BK2294
       replace BK2302 := fl_ qe_ BK2302
       replace BK2310 := fl_ qe_ BK2310
       replace BK2317 := fl_ qe_ BK2317
       replace BK2324 := fl_ qe_ BK2324
       replace BK2331 := fl_ qe_ BK2331
       replace BK2338 := fl_ qe_ BK2338
       replace BK2345 := fl_ qe_ BK2345
       replace BK2352 : Aside0 (w115.heap[gb2352]? = some (.cells #[.int .i64 t2346, .string t2347, .string t2348, .int .i64 t2349, .int .i64 t2350] 69 (0, 0))) := ⟨qh26_⟩
       replace HB : Aside0 (Below w.heap.size w w115) := ⟨by rw [qe_]; exact hb_ HB.out⟩
       clear qe_
       replace HO2289 := Aside0.mk (Kd.R_drew HO2289.out)
       replace HO2299 := Aside0.mk (Kd.R_drew HO2299.out)
       replace HO2307 := Aside0.mk (Kd.R_drew HO2307.out)
       replace HO2315 := Aside0.mk (Kd.R_drew HO2315.out)
       replace HO2336 := Aside0.mk (Kd.R_drew HO2336.out)
       replace BK2294 := Aside0.mk (blk_drew BK2294.out)
       replace BK2302 := Aside0.mk (blk_drew BK2302.out)
       replace BK2310 := Aside0.mk (blk_drew BK2310.out)
       replace BK2317 := Aside0.mk (blk_drew BK2317.out)
       replace BK2324 := Aside0.mk (blk_drew BK2324.out)
       replace BK2331 := Aside0.mk (blk_drew BK2331.out)
       replace BK2338 := Aside0.mk (blk_drew BK2338.out)
       replace BK2345 := Aside0.mk (blk_drew BK2345.out)
       replace BK2352 := Aside0.mk (blk_drew BK2352.out)
       replace HB := Aside0.mk (below_drew1 HB.out)
       refine start_ (n := 41) (S := fun w' => w'.cell? ⟨gb2302, 0, none⟩ = some (.int .i64 t2295) ∧ w'.cell? ⟨gb2302, 1, none⟩ = some (.int .i64 t2296) ∧ w'.cell? ⟨gb2302, 2, none⟩ = some (.slice Ao23 t2297.length co23) ∧ w'.cell? ⟨gb2310, 0, none⟩ = some (.int .i64 t2303) ∧ w'.cell? ⟨gb2310, 1, none⟩ = some (.int .i64 t2304) ∧ w'.cell? ⟨gb2310, 2, none⟩ = some (.slice Ao30 t2305.length co30)) (ds := []) laws_FnRows.m0 (by kernel_rfl) rfl rfl ⟨bc_ BK2302 0, bc_ BK2302 1, bc_ BK2302 2, bc_ BK2310 0, bc_ BK2310 1, bc_ BK2310 2⟩ (fun hHeld => ?_); refine with_tabW laws_FnRows.tab12 laws_FnRows.bits12 (fun HT_ HW_ => ?_)
       generalize w115.drew = w116 at HO2289 HO2299 HO2307 HO2315 HO2336 BK2294 BK2302 BK2310 BK2317 BK2324 BK2331 BK2338 BK2345 BK2352 HB hHeld ⊢
       refine pI_ 0 97 HT_ laws_FnRows.m1 rfl rfl ?_
       refine pI_ 1 98 HT_ laws_FnRows.m2 rfl rfl ?_
       refine pI_ 2 99 HT_ laws_FnRows.m3 rfl rfl ?_
       refine pI_ 3 100 HT_ laws_FnRows.m4 rfl rfl ?_
       refine pI_ 4 101 HT_ laws_FnRows.m5 rfl rfl ?_
       refine pI_ 5 102 HT_ laws_FnRows.m6 rfl rfl ?_
       refine pI_ 6 103 HT_ laws_FnRows.m7 rfl rfl ?_
       refine pI_ 7 104 HT_ laws_FnRows.m8 rfl rfl ?_
       refine pI_ 8 105 HT_ laws_FnRows.m9 rfl rfl ?_
       refine tk_ 9 106 HT_ HW_ laws_FnRows.m10 rfl rfl hHeld ?_
       refine tk_ 10 107 HT_ HW_ laws_FnRows.m11 rfl rfl hHeld ?_
       refine on_ 11 108 HT_ laws_FnRows.m12 rfl rfl (fun K hK => ?_)
       refine goes_ Try.func43 (by kernel_rfl) rfl #[.agg #[.int .i64 t2295, .int .i64 t2296, .slice Ao23 t2297.length co23], .agg #[.int .i64 t2303, .int .i64 t2304, .slice Ao30 t2305.length co30]] (by rfl) rfl rfl sm_ ?_
       with_reducible refine (laws_sameRow.calls kj2 t2295 t2296 _ _ t2297 t2303 t2304 _ _ t2305 false _ ?side1 ?side2 ?side3 ?side4 A90.out).mono ?_
       (case side1 => repeat (first | exact (Kd.R_reads' HO2299.out).2.2 | (with_reducible refine Kd.C_alloc ?_ _) | (with_reducible refine Kd.C_drewN ?_ _) | (with_reducible refine Kd.C_drew ?_)))
       (case side2 => exact (Kd.R_reads' HO2299.out).2.1)
       (case side3 => repeat (first | exact (Kd.R_reads' HO2307.out).2.2 | (with_reducible refine Kd.C_alloc ?_ _) | (with_reducible refine Kd.C_drewN ?_ _) | (with_reducible refine Kd.C_drew ?_)))
       (case side4 => exact (Kd.R_reads' HO2307.out).2.1)
       rintro e w117 ⟨rfl, hb⟩
       refine ⟨_, rfl, ?_⟩
       replace HO2289 := cr_ HO2289 hb
       replace HO2299 := cr_ HO2299 hb
       replace HO2307 := cr_ HO2307 hb
       replace HO2315 := cr_ HO2315 hb
       replace HO2336 := cr_ HO2336 hb
       replace BK2294 := cb_ BK2294 hb
       replace BK2302 := cb_ BK2302 hb
       replace BK2310 := cb_ BK2310 hb
       replace BK2317 := cb_ BK2317 hb
       replace BK2324 := cb_ BK2324 hb
       replace BK2331 := cb_ BK2331 hb
       replace BK2338 := cb_ BK2338 hb
       replace BK2345 := cb_ BK2345 hb
       replace BK2352 := cb_ BK2352 hb
       replace HB := ch_ HB hb
       (try clear hb); (try clear hb2); (try clear hk); (try clear hi)
       refine hK.out _ _ ⟨bc_ BK2302 0, bc_ BK2302 1, bc_ BK2302 2, bc_ BK2310 0, bc_ BK2310 1, bc_ BK2310 2⟩ (fun hHeld => ?_)
       clear hK K
       refine nm_ ?_
       refine pI_ 12 109 HT_ laws_FnRows.m13 rfl rfl ?_
       refine pI_ 13 110 HT_ laws_FnRows.m14 rfl rfl ?_
       refine pI_ 14 111 HT_ laws_FnRows.m15 rfl rfl ?_
       refine pU_ 15 112 HT_ laws_FnRows.m16 rfl rfl ?_
       refine pU_ 16 113 HT_ laws_FnRows.m17 rfl rfl ?_
       refine pU_ 17 114 HT_ laws_FnRows.m18 rfl rfl ?_
       refine pI_ 18 115 HT_ laws_FnRows.m19 rfl rfl ?_
       refine pI_ 19 116 HT_ laws_FnRows.m20 rfl rfl ?_
       refine pU_ 20 117 HT_ laws_FnRows.m21 rfl rfl ?_
       refine pU_ 21 118 HT_ laws_FnRows.m22 rfl rfl ?_
       refine pU_ 22 119 HT_ laws_FnRows.m23 rfl rfl ?_
       refine pI_ 23 120 HT_ laws_FnRows.m24 rfl rfl ?_
       refine pI_ 24 121 HT_ laws_FnRows.m25 rfl rfl ?_
       refine pU_ 25 122 HT_ laws_FnRows.m26 rfl rfl ?_
       refine pU_ 26 123 HT_ laws_FnRows.m27 rfl rfl ?_
       refine pU_ 27 124 HT_ laws_FnRows.m28 rfl rfl ?_
       refine pI_ 28 125 HT_ laws_FnRows.m29 rfl rfl ?_
       refine pI_ 29 126 HT_ laws_FnRows.m30 rfl rfl ?_
       refine pU_ 30 127 HT_ laws_FnRows.m31 rfl rfl ?_
       refine pU_ 31 128 HT_ laws_FnRows.m32 rfl rfl ?_
       refine pU_ 32 129 HT_ laws_FnRows.m33 rfl rfl ?_
       refine pI_ 33 130 HT_ laws_FnRows.m34 rfl rfl ?_
       refine pI_ 34 131 HT_ laws_FnRows.m35 rfl rfl ?_
       refine pU_ 35 132 HT_ laws_FnRows.m36 rfl rfl ?_
       refine pU_ 36 133 HT_ laws_FnRows.m37 rfl rfl ?_
       refine pU_ 37 134 HT_ laws_FnRows.m38 rfl rfl ?_
       refine pU_ 38 135 HT_ laws_FnRows.m39 rfl rfl ?_
       refine pU_ 39 136 HT_ laws_FnRows.m40 rfl rfl ?_
       refine pI_ 40 137 HT_ laws_FnRows.m41 rfl rfl ?_
       refine done_ (done_of HT_.out (by kernel_rfl)) ?_
       try go_wp2
       go_meet
       case rel => exact ⟨_, (true), (qh15_), H', ⟨qh25_⟩, ⟨rq_ HO2289.out⟩, ⟨rq_ HO2299.out⟩, ⟨rq_ HO2307.out⟩, ⟨rq_ HO2315.out⟩, ⟨rq_ HO2336.out⟩, ⟨bq_ BK2294.out⟩, ⟨bq_ BK2302.out⟩, ⟨bq_ BK2310.out⟩, ⟨bq_ BK2317.out⟩, ⟨bq_ BK2324.out⟩, ⟨bq_ BK2331.out⟩, ⟨bq_ BK2338.out⟩, ⟨bq_ BK2345.out⟩, ⟨bq_ BK2352.out⟩, ⟨hb_ HB.out⟩⟩
     ·
      as_aux_lemma =>
      rw [if_neg c89] at H
      have c89b0 : (t2300 == t2308) = false := beq_eq_false_iff_ne.mpr c89
      have c89b1 : (t2300 != t2308) = true := bne_iff_ne.mpr c89
      have H' := Aside0.mk H
      clear H
      try go_wp2
      obtain ⟨w118, qe_⟩ : ∃ x_, x_ = (((((w76.setCell ⟨gb2352, 0, none⟩ (.int .i64 t2346)).setCell ⟨gb2352, 1, none⟩ (.string t2347)).setCell ⟨gb2352, 2, none⟩ (.string t2348)).setCell ⟨gb2352, 3, none⟩ (.int .i64 t2349)).setCell ⟨gb2352, 4, none⟩ (.int .i64 t2350)) := ⟨_, rfl⟩
      rw [← qe_]
      replace HO2289 : Aside0 (Kd.R k_Item 69 w118 w.heap.size (fun k_ => some k_ ≠ (.slice Ao23 t2297.length co23 : Value).ownBlock ∧ some k_ ≠ (.slice Ao30 t2305.length co30 : Value).ownBlock ∧ some k_ ≠ (.slice Ao37 t2313.length co37 : Value).ownBlock ∧ some k_ ≠ (.slice Ao63 t2334.length co63 : Value).ownBlock ∧ k_ ≠ gb2324 ∧ k_ ≠ gb2331 ∧ k_ ≠ gb2345 ∧ k_ ≠ gb2352) (.slice Ao18 t2287.length co18) t2287) := ⟨qh4_⟩
      replace HO2299 : Aside0 (Kd.R k_Item 69 w118 w.heap.size (fun k_ => some k_ ≠ (.slice Ao18 t2287.length co18 : Value).ownBlock ∧ some k_ ≠ (.slice Ao30 t2305.length co30 : Value).ownBlock ∧ some k_ ≠ (.slice Ao37 t2313.length co37 : Value).ownBlock ∧ some k_ ≠ (.slice Ao63 t2334.length co63 : Value).ownBlock ∧ k_ ≠ gb2324 ∧ k_ ≠ gb2331 ∧ k_ ≠ gb2345 ∧ k_ ≠ gb2352) (.slice Ao23 t2297.length co23) t2297) := ⟨qh3_⟩
      replace HO2307 : Aside0 (Kd.R k_Item 69 w118 w.heap.size (fun k_ => some k_ ≠ (.slice Ao18 t2287.length co18 : Value).ownBlock ∧ some k_ ≠ (.slice Ao23 t2297.length co23 : Value).ownBlock ∧ some k_ ≠ (.slice Ao37 t2313.length co37 : Value).ownBlock ∧ some k_ ≠ (.slice Ao63 t2334.length co63 : Value).ownBlock ∧ k_ ≠ gb2324 ∧ k_ ≠ gb2331 ∧ k_ ≠ gb2345 ∧ k_ ≠ gb2352) (.slice Ao30 t2305.length co30) t2305) := ⟨qh2_⟩
      replace HO2315 : Aside0 (Kd.R k_Item 69 w118 w.heap.size (fun k_ => some k_ ≠ (.slice Ao18 t2287.length co18 : Value).ownBlock ∧ some k_ ≠ (.slice Ao23 t2297.length co23 : Value).ownBlock ∧ some k_ ≠ (.slice Ao30 t2305.length co30 : Value).ownBlock ∧ some k_ ≠ (.slice Ao63 t2334.length co63 : Value).ownBlock ∧ k_ ≠ gb2324 ∧ k_ ≠ gb2331 ∧ k_ ≠ gb2345 ∧ k_ ≠ gb2352) (.slice Ao37 t2313.length co37) t2313) := ⟨qh1_⟩
      replace HO2336 : Aside0 (Kd.R k_Item 69 w118 w.heap.size (fun k_ => some k_ ≠ (.slice Ao18 t2287.length co18 : Value).ownBlock ∧ some k_ ≠ (.slice Ao23 t2297.length co23 : Value).ownBlock ∧ some k_ ≠ (.slice Ao30 t2305.length co30 : Value).ownBlock ∧ some k_ ≠ (.slice Ao37 t2313.length co37 : Value).ownBlock ∧ k_ ≠ gb2324 ∧ k_ ≠ gb2331 ∧ k_ ≠ gb2345 ∧ k_ ≠ gb2352) (.slice Ao63 t2334.length co63) t2334) := ⟨qh0_⟩
      replace BK2294 := fl_ qe_ BK2294
      replace BK2302 := fl_ qe_ BK2302
      replace BK2310 := fl_ qe_ BK2310
      replace BK2317 := fl_ qe_ BK2317
      replace BK2324 := fl_ qe_ BK2324
      replace BK2331 := fl_ qe_ BK2331
      replace BK2338 := fl_ qe_ BK2338
      replace BK2345 := fl_ qe_ BK2345
      replace BK2352 : Aside0 (w118.heap[gb2352]? = some (.cells #[.int .i64 t2346, .string t2347, .string t2348, .int .i64 t2349, .int .i64 t2350] 69 (0, 0))) := ⟨qh26_⟩
      replace HB : Aside0 (Below w.heap.size w w118) := ⟨by rw [qe_]; exact hb_ HB.out⟩
      clear qe_
      replace HO2289 := Aside0.mk (Kd.R_drew HO2289.out)
      replace HO2299 := Aside0.mk (Kd.R_drew HO2299.out)
      replace HO2307 := Aside0.mk (Kd.R_drew HO2307.out)
      replace HO2315 := Aside0.mk (Kd.R_drew HO2315.out)
      replace HO2336 := Aside0.mk (Kd.R_drew HO2336.out)
      replace BK2294 := Aside0.mk (blk_drew BK2294.out)
      replace BK2302 := Aside0.mk (blk_drew BK2302.out)
      replace BK2310 := Aside0.mk (blk_drew BK2310.out)
      replace BK2317 := Aside0.mk (blk_drew BK2317.out)
      replace BK2324 := Aside0.mk (blk_drew BK2324.out)
      replace BK2331 := Aside0.mk (blk_drew BK2331.out)
      replace BK2338 := Aside0.mk (blk_drew BK2338.out)
      replace BK2345 := Aside0.mk (blk_drew BK2345.out)
      replace BK2352 := Aside0.mk (blk_drew BK2352.out)
      replace HB := Aside0.mk (below_drew1 HB.out)
      refine start_ (n := 41) (S := fun w' => True) (ds := []) laws_FnRows.m0 (by kernel_rfl) rfl rfl trivial (fun hHeld => ?_); refine with_tabW laws_FnRows.tab12 laws_FnRows.bits12 (fun HT_ HW_ => ?_)
      generalize w118.drew = w119 at HO2289 HO2299 HO2307 HO2315 HO2336 BK2294 BK2302 BK2310 BK2317 BK2324 BK2331 BK2338 BK2345 BK2352 HB hHeld ⊢
      refine pI_ 0 97 HT_ laws_FnRows.m1 rfl rfl ?_
      refine pI_ 1 98 HT_ laws_FnRows.m2 rfl rfl ?_
      refine pI_ 2 99 HT_ laws_FnRows.m3 rfl rfl ?_
      refine pI_ 3 100 HT_ laws_FnRows.m4 rfl rfl ?_
      refine pI_ 4 101 HT_ laws_FnRows.m5 rfl rfl ?_
      refine pI_ 5 102 HT_ laws_FnRows.m6 rfl rfl ?_
      refine pI_ 6 103 HT_ laws_FnRows.m7 rfl rfl ?_
      refine pI_ 7 104 HT_ laws_FnRows.m8 rfl rfl ?_
      refine pI_ 8 105 HT_ laws_FnRows.m9 rfl rfl ?_
      refine pU_ 9 106 HT_ laws_FnRows.m10 rfl rfl ?_
      refine pU_ 10 107 HT_ laws_FnRows.m11 rfl rfl ?_
      refine pU_ 11 108 HT_ laws_FnRows.m12 rfl rfl ?_
      refine pU_ 12 109 HT_ laws_FnRows.m13 rfl rfl ?_
      refine pI_ 13 110 HT_ laws_FnRows.m14 rfl rfl ?_
      refine pI_ 14 111 HT_ laws_FnRows.m15 rfl rfl ?_
      refine pU_ 15 112 HT_ laws_FnRows.m16 rfl rfl ?_
      refine pU_ 16 113 HT_ laws_FnRows.m17 rfl rfl ?_
      refine pU_ 17 114 HT_ laws_FnRows.m18 rfl rfl ?_
      refine pI_ 18 115 HT_ laws_FnRows.m19 rfl rfl ?_
      refine pI_ 19 116 HT_ laws_FnRows.m20 rfl rfl ?_
      refine pU_ 20 117 HT_ laws_FnRows.m21 rfl rfl ?_
      refine pU_ 21 118 HT_ laws_FnRows.m22 rfl rfl ?_
      refine pU_ 22 119 HT_ laws_FnRows.m23 rfl rfl ?_
      refine pI_ 23 120 HT_ laws_FnRows.m24 rfl rfl ?_
      refine pI_ 24 121 HT_ laws_FnRows.m25 rfl rfl ?_
      refine pU_ 25 122 HT_ laws_FnRows.m26 rfl rfl ?_
      refine pU_ 26 123 HT_ laws_FnRows.m27 rfl rfl ?_
      refine pU_ 27 124 HT_ laws_FnRows.m28 rfl rfl ?_
      refine pI_ 28 125 HT_ laws_FnRows.m29 rfl rfl ?_
      refine pI_ 29 126 HT_ laws_FnRows.m30 rfl rfl ?_
      refine pU_ 30 127 HT_ laws_FnRows.m31 rfl rfl ?_
      refine pU_ 31 128 HT_ laws_FnRows.m32 rfl rfl ?_
      refine pU_ 32 129 HT_ laws_FnRows.m33 rfl rfl ?_
      refine pI_ 33 130 HT_ laws_FnRows.m34 rfl rfl ?_
      refine pI_ 34 131 HT_ laws_FnRows.m35 rfl rfl ?_
      refine pU_ 35 132 HT_ laws_FnRows.m36 rfl rfl ?_
      refine pU_ 36 133 HT_ laws_FnRows.m37 rfl rfl ?_
      refine pU_ 37 134 HT_ laws_FnRows.m38 rfl rfl ?_
      refine pU_ 38 135 HT_ laws_FnRows.m39 rfl rfl ?_
      refine pU_ 39 136 HT_ laws_FnRows.m40 rfl rfl ?_
      refine pI_ 40 137 HT_ laws_FnRows.m41 rfl rfl ?_
      refine done_ (done_of HT_.out (by kernel_rfl)) ?_
      try go_wp2
      go_meet
      case rel => exact ⟨_, (true), (qh15_), H', ⟨qh25_⟩, ⟨rq_ HO2289.out⟩, ⟨rq_ HO2299.out⟩, ⟨rq_ HO2307.out⟩, ⟨rq_ HO2315.out⟩, ⟨rq_ HO2336.out⟩, ⟨bq_ BK2294.out⟩, ⟨bq_ BK2302.out⟩, ⟨bq_ BK2310.out⟩, ⟨bq_ BK2317.out⟩, ⟨bq_ BK2324.out⟩, ⟨bq_ BK2331.out⟩, ⟨bq_ BK2338.out⟩, ⟨bq_ BK2345.out⟩, ⟨bq_ BK2352.out⟩, ⟨hb_ HB.out⟩⟩
   case rest =>
    as_aux_lemma =>
    clear HC14
    obtain ⟨kq, x137_13, rfl, HA, HJ13, HO_2295002, HO_2303002, HO_2311002, HO_2318002, HO_2339002, BK2294, BK2302, BK2310, BK2317, BK2324, BK2331, BK2338, BK2345, BK2352, HB⟩ := hcut
    cases kq with
    | zero => exact absurd HA.out (by simp [laws_FnRows.j1])
    | succ kj13 =>
     have H := HA.out
     clear HA
     simp only [laws_FnRows.j1] at H
     have HC120 := Aside0.mk H
     clear H
     go_upto_if 137 with (fail)
     go_cut [] (fun wc => ∃ (kq : Nat), Aside0 (laws_FnRows.j2 kq t2290 t2291 t2300 t2301 t2285 t2286 t2287 t2295 t2296 t2297 = some r) ∧ Aside0 (kq ≤ kj13) ∧ Aside0 (Kd.R k_Item 69 wc w.heap.size (fun k_ => some k_ ≠ ((.slice Ao23 t2297.length co23) : Value).ownBlock ∧ some k_ ≠ ((.slice Ao30 t2305.length co30) : Value).ownBlock ∧ some k_ ≠ ((.slice Ao37 t2313.length co37) : Value).ownBlock ∧ some k_ ≠ ((.slice Ao63 t2334.length co63) : Value).ownBlock ∧ k_ ≠ gb2324 ∧ k_ ≠ gb2331 ∧ k_ ≠ gb2345 ∧ k_ ≠ gb2352) (.slice Ao18 t2287.length co18) t2287) ∧ Aside0 (Kd.R k_Item 69 wc w.heap.size (fun k_ => some k_ ≠ ((.slice Ao18 t2287.length co18) : Value).ownBlock ∧ some k_ ≠ ((.slice Ao30 t2305.length co30) : Value).ownBlock ∧ some k_ ≠ ((.slice Ao37 t2313.length co37) : Value).ownBlock ∧ some k_ ≠ ((.slice Ao63 t2334.length co63) : Value).ownBlock ∧ k_ ≠ gb2324 ∧ k_ ≠ gb2331 ∧ k_ ≠ gb2345 ∧ k_ ≠ gb2352) (.slice Ao23 t2297.length co23) t2297) ∧ Aside0 (Kd.R k_Item 69 wc w.heap.size (fun k_ => some k_ ≠ ((.slice Ao18 t2287.length co18) : Value).ownBlock ∧ some k_ ≠ ((.slice Ao23 t2297.length co23) : Value).ownBlock ∧ some k_ ≠ ((.slice Ao37 t2313.length co37) : Value).ownBlock ∧ some k_ ≠ ((.slice Ao63 t2334.length co63) : Value).ownBlock ∧ k_ ≠ gb2324 ∧ k_ ≠ gb2331 ∧ k_ ≠ gb2345 ∧ k_ ≠ gb2352) (.slice Ao30 t2305.length co30) t2305) ∧ Aside0 (Kd.R k_Item 69 wc w.heap.size (fun k_ => some k_ ≠ ((.slice Ao18 t2287.length co18) : Value).ownBlock ∧ some k_ ≠ ((.slice Ao23 t2297.length co23) : Value).ownBlock ∧ some k_ ≠ ((.slice Ao30 t2305.length co30) : Value).ownBlock ∧ some k_ ≠ ((.slice Ao63 t2334.length co63) : Value).ownBlock ∧ k_ ≠ gb2324 ∧ k_ ≠ gb2331 ∧ k_ ≠ gb2345 ∧ k_ ≠ gb2352) (.slice Ao37 t2313.length co37) t2313) ∧ Aside0 (Kd.R k_Item 69 wc w.heap.size (fun k_ => some k_ ≠ ((.slice Ao18 t2287.length co18) : Value).ownBlock ∧ some k_ ≠ ((.slice Ao23 t2297.length co23) : Value).ownBlock ∧ some k_ ≠ ((.slice Ao30 t2305.length co30) : Value).ownBlock ∧ some k_ ≠ ((.slice Ao37 t2313.length co37) : Value).ownBlock ∧ k_ ≠ gb2324 ∧ k_ ≠ gb2331 ∧ k_ ≠ gb2345 ∧ k_ ≠ gb2352) (.slice Ao63 t2334.length co63) t2334) ∧ Aside0 (wc.heap[gb2294]? = some (.cells #[.int .i64 t2285, .int .i64 t2286, (.slice Ao18 t2287.length co18)] 57 (0, 0))) ∧ Aside0 (wc.heap[gb2302]? = some (.cells #[.int .i64 t2295, .int .i64 t2296, (.slice Ao23 t2297.length co23)] 57 (0, 0))) ∧ Aside0 (wc.heap[gb2310]? = some (.cells #[.int .i64 t2303, .int .i64 t2304, (.slice Ao30 t2305.length co30)] 57 (0, 0))) ∧ Aside0 (wc.heap[gb2317]? = some (.cells #[.int .i64 t2311, .int .i64 t2312, (.slice Ao37 t2313.length co37)] 57 (0, 0))) ∧ Aside0 (wc.heap[gb2324]? = some (.cells #[.int .i64 t2318, .string t2319, .string t2320, .int .i64 t2321, .int .i64 t2322] 69 (0, 0))) ∧ Aside0 (wc.heap[gb2331]? = some (.cells #[.int .i64 t2325, .string t2326, .string t2327, .int .i64 t2328, .int .i64 t2329] 69 (0, 0))) ∧ Aside0 (wc.heap[gb2338]? = some (.cells #[.int .i64 t2332, .int .i64 t2333, (.slice Ao63 t2334.length co63)] 57 (0, 0))) ∧ Aside0 (wc.heap[gb2345]? = some (.cells #[.int .i64 t2339, .string t2340, .string t2341, .int .i64 t2342, .int .i64 t2343] 69 (0, 0))) ∧ Aside0 (wc.heap[gb2352]? = some (.cells #[.int .i64 t2346, .string t2347, .string t2348, .int .i64 t2349, .int .i64 t2350] 69 (0, 0))) ∧ Aside0 (Below w.heap.size w wc))
     case first =>
      have H := HC120.out
      clear HC120
      by_cases c121 : x137_13 = true
      ·
       subst c121
       have H1 : (some false) = some r := by rw [if_pos rfl] at H; exact H
       clear H
       have H := H1
       clear H1
       obtain rfl := Option.some.inj H
       go_wp2
       go_ret
       exact ⟨er_, hb_ HB.out⟩
      ·
       replace c121 := Bool.eq_false_iff.mpr c121
       subst c121
       have H1 : (laws_FnRows.j2 kj13 t2290 t2291 t2300 t2301 t2285 t2286 t2287 t2295 t2296 t2297) = some r := by rw [if_neg (show ¬ (false = true) by decide)] at H; exact H
       clear H
       have H := H1
       clear H1
       have H' := Aside0.mk H
       clear H
       go_wp2
       go_meet
       case rel => exact ⟨_, H', ⟨by have := HJ2.out; have := HJ13.out; first | omega | exact Nat.le_refl _⟩, ⟨rq_ HO_2295002.out⟩, ⟨rq_ HO_2303002.out⟩, ⟨rq_ HO_2311002.out⟩, ⟨rq_ HO_2318002.out⟩, ⟨rq_ HO_2339002.out⟩, ⟨bq_ BK2294.out⟩, ⟨bq_ BK2302.out⟩, ⟨bq_ BK2310.out⟩, ⟨bq_ BK2317.out⟩, ⟨bq_ BK2324.out⟩, ⟨bq_ BK2331.out⟩, ⟨bq_ BK2338.out⟩, ⟨bq_ BK2345.out⟩, ⟨bq_ BK2352.out⟩, ⟨hb_ HB.out⟩⟩
     case rest =>
      as_aux_lemma =>
      clear HC120
      obtain ⟨kq, HA, HJ119, HO_2295002, HO_2303002, HO_2311002, HO_2318002, HO_2339002, BK2294, BK2302, BK2310, BK2317, BK2324, BK2331, BK2338, BK2345, BK2352, HB⟩ := hcut
      cases kq with
      | zero => exact absurd HA.out (by simp [laws_FnRows.j2])
      | succ kj119 =>
       have H := HA.out
       clear HA
       simp only [laws_FnRows.j2] at H
       have HC122 := Aside0.mk H
       clear H
       go_upto_if 139 with (fail)
       go_cut [] (fun wc => ∃ (kq : Nat), Aside0 (laws_FnRows.j3 kq t2290 t2291 t2300 t2285 t2286 t2287 t2295 t2296 t2297 = some r) ∧ Aside0 (kq ≤ kj119) ∧ Aside0 (Kd.R k_Item 69 wc w.heap.size (fun k_ => some k_ ≠ ((.slice Ao23 t2297.length co23) : Value).ownBlock ∧ some k_ ≠ ((.slice Ao30 t2305.length co30) : Value).ownBlock ∧ some k_ ≠ ((.slice Ao37 t2313.length co37) : Value).ownBlock ∧ some k_ ≠ ((.slice Ao63 t2334.length co63) : Value).ownBlock ∧ k_ ≠ gb2324 ∧ k_ ≠ gb2331 ∧ k_ ≠ gb2345 ∧ k_ ≠ gb2352) (.slice Ao18 t2287.length co18) t2287) ∧ Aside0 (Kd.R k_Item 69 wc w.heap.size (fun k_ => some k_ ≠ ((.slice Ao18 t2287.length co18) : Value).ownBlock ∧ some k_ ≠ ((.slice Ao30 t2305.length co30) : Value).ownBlock ∧ some k_ ≠ ((.slice Ao37 t2313.length co37) : Value).ownBlock ∧ some k_ ≠ ((.slice Ao63 t2334.length co63) : Value).ownBlock ∧ k_ ≠ gb2324 ∧ k_ ≠ gb2331 ∧ k_ ≠ gb2345 ∧ k_ ≠ gb2352) (.slice Ao23 t2297.length co23) t2297) ∧ Aside0 (Kd.R k_Item 69 wc w.heap.size (fun k_ => some k_ ≠ ((.slice Ao18 t2287.length co18) : Value).ownBlock ∧ some k_ ≠ ((.slice Ao23 t2297.length co23) : Value).ownBlock ∧ some k_ ≠ ((.slice Ao37 t2313.length co37) : Value).ownBlock ∧ some k_ ≠ ((.slice Ao63 t2334.length co63) : Value).ownBlock ∧ k_ ≠ gb2324 ∧ k_ ≠ gb2331 ∧ k_ ≠ gb2345 ∧ k_ ≠ gb2352) (.slice Ao30 t2305.length co30) t2305) ∧ Aside0 (Kd.R k_Item 69 wc w.heap.size (fun k_ => some k_ ≠ ((.slice Ao18 t2287.length co18) : Value).ownBlock ∧ some k_ ≠ ((.slice Ao23 t2297.length co23) : Value).ownBlock ∧ some k_ ≠ ((.slice Ao30 t2305.length co30) : Value).ownBlock ∧ some k_ ≠ ((.slice Ao63 t2334.length co63) : Value).ownBlock ∧ k_ ≠ gb2324 ∧ k_ ≠ gb2331 ∧ k_ ≠ gb2345 ∧ k_ ≠ gb2352) (.slice Ao37 t2313.length co37) t2313) ∧ Aside0 (Kd.R k_Item 69 wc w.heap.size (fun k_ => some k_ ≠ ((.slice Ao18 t2287.length co18) : Value).ownBlock ∧ some k_ ≠ ((.slice Ao23 t2297.length co23) : Value).ownBlock ∧ some k_ ≠ ((.slice Ao30 t2305.length co30) : Value).ownBlock ∧ some k_ ≠ ((.slice Ao37 t2313.length co37) : Value).ownBlock ∧ k_ ≠ gb2324 ∧ k_ ≠ gb2331 ∧ k_ ≠ gb2345 ∧ k_ ≠ gb2352) (.slice Ao63 t2334.length co63) t2334) ∧ Aside0 (wc.heap[gb2294]? = some (.cells #[.int .i64 t2285, .int .i64 t2286, (.slice Ao18 t2287.length co18)] 57 (0, 0))) ∧ Aside0 (wc.heap[gb2302]? = some (.cells #[.int .i64 t2295, .int .i64 t2296, (.slice Ao23 t2297.length co23)] 57 (0, 0))) ∧ Aside0 (wc.heap[gb2310]? = some (.cells #[.int .i64 t2303, .int .i64 t2304, (.slice Ao30 t2305.length co30)] 57 (0, 0))) ∧ Aside0 (wc.heap[gb2317]? = some (.cells #[.int .i64 t2311, .int .i64 t2312, (.slice Ao37 t2313.length co37)] 57 (0, 0))) ∧ Aside0 (wc.heap[gb2324]? = some (.cells #[.int .i64 t2318, .string t2319, .string t2320, .int .i64 t2321, .int .i64 t2322] 69 (0, 0))) ∧ Aside0 (wc.heap[gb2331]? = some (.cells #[.int .i64 t2325, .string t2326, .string t2327, .int .i64 t2328, .int .i64 t2329] 69 (0, 0))) ∧ Aside0 (wc.heap[gb2338]? = some (.cells #[.int .i64 t2332, .int .i64 t2333, (.slice Ao63 t2334.length co63)] 57 (0, 0))) ∧ Aside0 (wc.heap[gb2345]? = some (.cells #[.int .i64 t2339, .string t2340, .string t2341, .int .i64 t2342, .int .i64 t2343] 69 (0, 0))) ∧ Aside0 (wc.heap[gb2352]? = some (.cells #[.int .i64 t2346, .string t2347, .string t2348, .int .i64 t2349, .int .i64 t2350] 69 (0, 0))) ∧ Aside0 (Below w.heap.size w wc))
       case first =>
        have H := HC122.out
        clear HC122
        by_cases c123 : t2301 = true
        ·
         subst c123
         have H1 : (laws_FnRows.j3 kj119 t2290 t2291 t2300 t2285 t2286 t2287 t2295 t2296 t2297) = some r := by rw [if_pos rfl] at H; exact H
         clear H
         have H := H1
         clear H1
         have H' := Aside0.mk H
         clear H
         go_wp2
         go_meet
         case rel => exact ⟨_, H', ⟨by have := HJ2.out; have := HJ13.out; have := HJ119.out; first | omega | exact Nat.le_refl _⟩, ⟨rq_ HO_2295002.out⟩, ⟨rq_ HO_2303002.out⟩, ⟨rq_ HO_2311002.out⟩, ⟨rq_ HO_2318002.out⟩, ⟨rq_ HO_2339002.out⟩, ⟨bq_ BK2294.out⟩, ⟨bq_ BK2302.out⟩, ⟨bq_ BK2310.out⟩, ⟨bq_ BK2317.out⟩, ⟨bq_ BK2324.out⟩, ⟨bq_ BK2331.out⟩, ⟨bq_ BK2338.out⟩, ⟨bq_ BK2345.out⟩, ⟨bq_ BK2352.out⟩, ⟨hb_ HB.out⟩⟩
        ·
         replace c123 := Bool.eq_false_iff.mpr c123
         subst c123
         have H1 : ((laws_sameRow.f kj119 t2295 t2296 t2297 t2285 t2286 t2287).bind fun t2356 => (some t2356)) = some r := by rw [if_neg (show ¬ (false = true) by decide)] at H; exact H
         clear H
         have H := H1
         clear H1
         replace H := Option.bind_eq_some_iff.mp H
         obtain ⟨t2356, A1240, H⟩ := H
         replace H : (some t2356) = some r := H
         have A124 := Aside0.mk A1240
         clear A1240
         obtain rfl := Option.some.inj H
         have hnb125 := NB2302_2294.out
         have hnc125 := NB2294_2302.out
         have hnb126 := NB2302_2310.out
         have hnc126 := NB2310_2302.out
         have hnb127 := NB2302_2317.out
         have hnc127 := NB2317_2302.out
         have hnb128 := NB2302_2324.out
         have hnc128 := NB2324_2302.out
         have hnb129 := NB2302_2331.out
         have hnc129 := NB2331_2302.out
         have hnb130 := NB2302_2338.out
         have hnc130 := NB2338_2302.out
         have hnb131 := NB2302_2345.out
         have hnc131 := NB2345_2302.out
         have hnb132 := NB2302_2352.out
         have hnc132 := NB2352_2302.out
         have hcz133_0 : wc.cell? ⟨gb2302, 0, none⟩ = some (.int .i64 t2295) := bc_ BK2302 0
         have hcz133_1 : wc.cell? ⟨gb2302, 1, none⟩ = some (.int .i64 t2296) := bc_ BK2302 1
         have hcz133_2 : wc.cell? ⟨gb2302, 2, none⟩ = some (.slice Ao23 t2297.length co23) := bc_ BK2302 2
         have hfz133_0 := blk_frozen BK2302.out 0
         have hfz133_1 := blk_frozen BK2302.out 1
         have hfz133_2 := blk_frozen BK2302.out 2
         have hnb134 := NB2294_2310.out
         have hnc134 := NB2310_2294.out
         have hnb135 := NB2294_2317.out
         have hnc135 := NB2317_2294.out
         have hnb136 := NB2294_2324.out
         have hnc136 := NB2324_2294.out
         have hnb137 := NB2294_2331.out
         have hnc137 := NB2331_2294.out
         have hnb138 := NB2294_2338.out
         have hnc138 := NB2338_2294.out
         have hnb139 := NB2294_2345.out
         have hnc139 := NB2345_2294.out
         have hnb140 := NB2294_2352.out
         have hnc140 := NB2352_2294.out
         have hcz141_0 : wc.cell? ⟨gb2294, 0, none⟩ = some (.int .i64 t2285) := bc_ BK2294 0
         have hcz141_1 : wc.cell? ⟨gb2294, 1, none⟩ = some (.int .i64 t2286) := bc_ BK2294 1
         have hcz141_2 : wc.cell? ⟨gb2294, 2, none⟩ = some (.slice Ao18 t2287.length co18) := bc_ BK2294 2
         have hfz141_0 := blk_frozen BK2294.out 0
         have hfz141_1 := blk_frozen BK2294.out 1
         have hfz141_2 := blk_frozen BK2294.out 2
         go_wp2_with (first | ((with_reducible refine gate_callee (f := 43) rfl ?_); refine goesL_ (some 142) rfl rfl Try.func43 (by kernel_rfl) rfl #[.agg #[.int .i64 t2295, .int .i64 t2296, .slice Ao23 t2297.length co23], .agg #[.int .i64 t2285, .int .i64 t2286, .slice Ao18 t2287.length co18]] rfl sm_ ?_; (with_reducible refine (laws_sameRow.calls kj119 t2295 t2296 _ _ t2297 t2285 t2286 _ _ t2287 t2356 _ ?side1 ?side2 ?side3 ?side4 A124.out).mono ?_); (case side1 => repeat (first | exact (Kd.R_reads' HO_2303002.out).2.2 | (with_reducible refine Kd.C_alloc ?_ _) | (with_reducible refine Kd.C_drewN ?_ _) | (with_reducible refine Kd.C_drew ?_))); (case side2 => exact (Kd.R_reads' HO_2303002.out).2.1); (case side3 => repeat (first | exact (Kd.R_reads' HO_2295002.out).2.2 | (with_reducible refine Kd.C_alloc ?_ _) | (with_reducible refine Kd.C_drewN ?_ _) | (with_reducible refine Kd.C_drew ?_))); (case side4 => exact (Kd.R_reads' HO_2295002.out).2.1); rintro e w142 ⟨rfl, hb⟩; refine ⟨_, rfl, ?_⟩; replace HO_2295002 := cr_ HO_2295002 hb; replace HO_2303002 := cr_ HO_2303002 hb; replace HO_2311002 := cr_ HO_2311002 hb; replace HO_2318002 := cr_ HO_2318002 hb; replace HO_2339002 := cr_ HO_2339002 hb; replace BK2294 := cb_ BK2294 hb; replace BK2302 := cb_ BK2302 hb; replace BK2310 := cb_ BK2310 hb; replace BK2317 := cb_ BK2317 hb; replace BK2324 := cb_ BK2324 hb; replace BK2331 := cb_ BK2331 hb; replace BK2338 := cb_ BK2338 hb; replace BK2345 := cb_ BK2345 hb; replace BK2352 := cb_ BK2352 hb; replace HB := ch_ HB hb; (try clear hb); (try clear hb2); (try clear hk); (try clear hi)))
         go_ret
         exact ⟨er_, hb_ HB.out⟩
       case rest =>
        as_aux_lemma =>
        clear HC122
        obtain ⟨kq, HA, HJ121, HO_2295002, HO_2303002, HO_2311002, HO_2318002, HO_2339002, BK2294, BK2302, BK2310, BK2317, BK2324, BK2331, BK2338, BK2345, BK2352, HB⟩ := hcut
        cases kq with
        | zero => exact absurd HA.out (by simp [laws_FnRows.j3])
        | succ kj121 =>
         have H := HA.out
         clear HA
         simp only [laws_FnRows.j3] at H
         replace H := Option.bind_eq_some_iff.mp H
         obtain ⟨⟨t2357, t2358, t2359, t2360, t2361, t2362⟩, A1430, H⟩ := H
         replace H : (if t2362 = 0 then (if t2357 = t2300 then (if t2358.toList = t2290.toList then (if t2359.toList = t2291.toList then (laws_FnRows.j4 kj121 (t2296 != (wrap64 (t2300 + 1))) t2285 t2286 t2287 t2295 t2296 t2297) else (laws_FnRows.j4 kj121 true t2285 t2286 t2287 t2295 t2296 t2297)) else (laws_FnRows.j4 kj121 true t2285 t2286 t2287 t2295 t2296 t2297)) else (laws_FnRows.j4 kj121 true t2285 t2286 t2287 t2295 t2296 t2297)) else (laws_FnRows.j4 kj121 true t2285 t2286 t2287 t2295 t2296 t2297)) = some r := H
         have A143 := Aside0.mk A1430
         clear A1430
         have HC144 := Aside0.mk H
         clear H
         have hnb145 := NB2302_2294.out
         have hnc145 := NB2294_2302.out
         have hnb146 := NB2302_2310.out
         have hnc146 := NB2310_2302.out
         have hnb147 := NB2302_2317.out
         have hnc147 := NB2317_2302.out
         have hnb148 := NB2302_2324.out
         have hnc148 := NB2324_2302.out
         have hnb149 := NB2302_2331.out
         have hnc149 := NB2331_2302.out
         have hnb150 := NB2302_2338.out
         have hnc150 := NB2338_2302.out
         have hnb151 := NB2302_2345.out
         have hnc151 := NB2345_2302.out
         have hnb152 := NB2302_2352.out
         have hnc152 := NB2352_2302.out
         have hcz153_0 : wc.cell? ⟨gb2302, 0, none⟩ = some (.int .i64 t2295) := bc_ BK2302 0
         have hcz153_1 : wc.cell? ⟨gb2302, 1, none⟩ = some (.int .i64 t2296) := bc_ BK2302 1
         have hcz153_2 : wc.cell? ⟨gb2302, 2, none⟩ = some (.slice Ao23 t2297.length co23) := bc_ BK2302 2
         have hfz153_0 := blk_frozen BK2302.out 0
         have hfz153_1 := blk_frozen BK2302.out 1
         have hfz153_2 := blk_frozen BK2302.out 2
         go_upto_region 17 with (first | ((with_reducible refine gate_callee (f := 38) rfl ?_); refine goesL_ (some 146) rfl rfl Try.func38 (by kernel_rfl) rfl #[.agg #[.int .i64 t2295, .int .i64 t2296, .slice Ao23 t2297.length co23], .int .i64 t2300] rfl sm_ ?_; (with_reducible refine (impl_RowGet.calls kj121 t2295 t2296 _ _ t2297 t2300 t2357 t2358 t2359 t2360 t2361 t2362 _ ?side1 ?side2 A143.out).mono ?_); (case side1 => repeat (first | exact (Kd.R_reads' HO_2303002.out).2.2 | (with_reducible refine Kd.C_alloc ?_ _) | (with_reducible refine Kd.C_drewN ?_ _) | (with_reducible refine Kd.C_drew ?_))); (case side2 => exact (Kd.R_reads' HO_2303002.out).2.1); rintro e w154 ⟨rfl, hb⟩; refine ⟨_, rfl, ?_⟩; replace HO_2295002 := cr_ HO_2295002 hb; replace HO_2303002 := cr_ HO_2303002 hb; replace HO_2311002 := cr_ HO_2311002 hb; replace HO_2318002 := cr_ HO_2318002 hb; replace HO_2339002 := cr_ HO_2339002 hb; replace BK2294 := cb_ BK2294 hb; replace BK2302 := cb_ BK2302 hb; replace BK2310 := cb_ BK2310 hb; replace BK2317 := cb_ BK2317 hb; replace BK2324 := cb_ BK2324 hb; replace BK2331 := cb_ BK2331 hb; replace BK2338 := cb_ BK2338 hb; replace BK2345 := cb_ BK2345 hb; replace BK2352 := cb_ BK2352 hb; replace HB := ch_ HB hb; (try clear hb); (try clear hb2); (try clear hk); (try clear hi)) | ((with_reducible refine gate_dst (N := 26) rfl ?_); refine box_event ?hg (N := 26) ?hd (cs := #[.int .i64 0, .string (⟨#[]⟩ : ByteArray), .string (⟨#[]⟩ : ByteArray), .int .i64 0, .int .i64 0]) (t := 69) ?hr ?_; (case hd => rfl); (case hg => rfl); (case hr => first | (go_simp; done) | (go_simp; rfl)); intro gb2363 hg w155 hbox hb; have BK2363 := Aside0.mk (hbox); have GW2363 := cz_ HB hg; have GE2363 := cz_ HB hg; have NB2294_2363 := cn_ BK2294 hg; have NB2363_2294 := cm_ BK2294 hg; have NB2302_2363 := cn_ BK2302 hg; have NB2363_2302 := cm_ BK2302 hg; have NB2310_2363 := cn_ BK2310 hg; have NB2363_2310 := cm_ BK2310 hg; have NB2317_2363 := cn_ BK2317 hg; have NB2363_2317 := cm_ BK2317 hg; have NB2324_2363 := cn_ BK2324 hg; have NB2363_2324 := cm_ BK2324 hg; have NB2331_2363 := cn_ BK2331 hg; have NB2363_2331 := cm_ BK2331 hg; have NB2338_2363 := cn_ BK2338 hg; have NB2363_2338 := cm_ BK2338 hg; have NB2345_2363 := cn_ BK2345 hg; have NB2363_2345 := cm_ BK2345 hg; have NB2352_2363 := cn_ BK2352 hg; have NB2363_2352 := cm_ BK2352 hg; replace HO_2295002 := Aside0.mk (Kd.R_below (Kd.R_elderB (rq_ HO_2295002.out) gb2363 (Nat.le_of_eq hg.symm)) hb); replace HO_2303002 := Aside0.mk (Kd.R_below (Kd.R_elderB (rq_ HO_2303002.out) gb2363 (Nat.le_of_eq hg.symm)) hb); replace HO_2311002 := Aside0.mk (Kd.R_below (Kd.R_elderB (rq_ HO_2311002.out) gb2363 (Nat.le_of_eq hg.symm)) hb); replace HO_2318002 := Aside0.mk (Kd.R_below (Kd.R_elderB (rq_ HO_2318002.out) gb2363 (Nat.le_of_eq hg.symm)) hb); replace HO_2339002 := Aside0.mk (Kd.R_below (Kd.R_elderB (rq_ HO_2339002.out) gb2363 (Nat.le_of_eq hg.symm)) hb); replace BK2294 := cb_ BK2294 hb; replace BK2302 := cb_ BK2302 hb; replace BK2310 := cb_ BK2310 hb; replace BK2317 := cb_ BK2317 hb; replace BK2324 := cb_ BK2324 hb; replace BK2331 := cb_ BK2331 hb; replace BK2338 := cb_ BK2338 hb; replace BK2345 := cb_ BK2345 hb; replace BK2352 := cb_ BK2352 hb; replace HB := ch_ HB hb; clear hb hbox hg; have hnb156 := NB2363_2294.out; have hnc156 := NB2294_2363.out; have hnb157 := NB2363_2302.out; have hnc157 := NB2302_2363.out; have hnb158 := NB2363_2310.out; have hnc158 := NB2310_2363.out; have hnb159 := NB2363_2317.out; have hnc159 := NB2317_2363.out; have hnb160 := NB2363_2324.out; have hnc160 := NB2324_2363.out; have hnb161 := NB2363_2331.out; have hnc161 := NB2331_2363.out; have hnb162 := NB2363_2338.out; have hnc162 := NB2338_2363.out; have hnb163 := NB2363_2345.out; have hnc163 := NB2345_2363.out; have hnb164 := NB2363_2352.out; have hnc164 := NB2352_2363.out; have hcz165_0 : w155.cell? ⟨gb2363, 0, none⟩ = some (.int .i64 0) := bc_ BK2363 0; have hcz165_1 : w155.cell? ⟨gb2363, 1, none⟩ = some (.string (⟨#[]⟩ : ByteArray)) := bc_ BK2363 1; have hcz165_2 : w155.cell? ⟨gb2363, 2, none⟩ = some (.string (⟨#[]⟩ : ByteArray)) := bc_ BK2363 2; have hcz165_3 : w155.cell? ⟨gb2363, 3, none⟩ = some (.int .i64 0) := bc_ BK2363 3; have hcz165_4 : w155.cell? ⟨gb2363, 4, none⟩ = some (.int .i64 0) := bc_ BK2363 4; have hfz165_0 := blk_frozen BK2363.out 0; have hfz165_1 := blk_frozen BK2363.out 1; have hfz165_2 := blk_frozen BK2363.out 2; have hfz165_3 := blk_frozen BK2363.out 3; have hfz165_4 := blk_frozen BK2363.out 4))
         (try simp only [Act.put, List.setIfInBounds_toArray, List.set_cons_zero, List.set_cons_succ])
         go_cut [175] (fun v175 wc => ∃ (kq : Nat) (x175_143 : Bool), v175 = .bool x175_143 ∧ Aside0 (laws_FnRows.j4 kq x175_143 t2285 t2286 t2287 t2295 t2296 t2297 = some r) ∧ Aside0 (kq ≤ kj121) ∧ Aside0 (Kd.R k_Item 69 wc w.heap.size (fun k_ => some k_ ≠ ((.slice Ao23 t2297.length co23) : Value).ownBlock ∧ some k_ ≠ ((.slice Ao30 t2305.length co30) : Value).ownBlock ∧ some k_ ≠ ((.slice Ao37 t2313.length co37) : Value).ownBlock ∧ some k_ ≠ ((.slice Ao63 t2334.length co63) : Value).ownBlock ∧ k_ ≠ gb2324 ∧ k_ ≠ gb2331 ∧ k_ ≠ gb2345 ∧ k_ ≠ gb2352 ∧ k_ ≠ gb2363) (.slice Ao18 t2287.length co18) t2287) ∧ Aside0 (Kd.R k_Item 69 wc w.heap.size (fun k_ => some k_ ≠ ((.slice Ao18 t2287.length co18) : Value).ownBlock ∧ some k_ ≠ ((.slice Ao30 t2305.length co30) : Value).ownBlock ∧ some k_ ≠ ((.slice Ao37 t2313.length co37) : Value).ownBlock ∧ some k_ ≠ ((.slice Ao63 t2334.length co63) : Value).ownBlock ∧ k_ ≠ gb2324 ∧ k_ ≠ gb2331 ∧ k_ ≠ gb2345 ∧ k_ ≠ gb2352 ∧ k_ ≠ gb2363) (.slice Ao23 t2297.length co23) t2297) ∧ Aside0 (Kd.R k_Item 69 wc w.heap.size (fun k_ => some k_ ≠ ((.slice Ao18 t2287.length co18) : Value).ownBlock ∧ some k_ ≠ ((.slice Ao23 t2297.length co23) : Value).ownBlock ∧ some k_ ≠ ((.slice Ao37 t2313.length co37) : Value).ownBlock ∧ some k_ ≠ ((.slice Ao63 t2334.length co63) : Value).ownBlock ∧ k_ ≠ gb2324 ∧ k_ ≠ gb2331 ∧ k_ ≠ gb2345 ∧ k_ ≠ gb2352 ∧ k_ ≠ gb2363) (.slice Ao30 t2305.length co30) t2305) ∧ Aside0 (Kd.R k_Item 69 wc w.heap.size (fun k_ => some k_ ≠ ((.slice Ao18 t2287.length co18) : Value).ownBlock ∧ some k_ ≠ ((.slice Ao23 t2297.length co23) : Value).ownBlock ∧ some k_ ≠ ((.slice Ao30 t2305.length co30) : Value).ownBlock ∧ some k_ ≠ ((.slice Ao63 t2334.length co63) : Value).ownBlock ∧ k_ ≠ gb2324 ∧ k_ ≠ gb2331 ∧ k_ ≠ gb2345 ∧ k_ ≠ gb2352 ∧ k_ ≠ gb2363) (.slice Ao37 t2313.length co37) t2313) ∧ Aside0 (Kd.R k_Item 69 wc w.heap.size (fun k_ => some k_ ≠ ((.slice Ao18 t2287.length co18) : Value).ownBlock ∧ some k_ ≠ ((.slice Ao23 t2297.length co23) : Value).ownBlock ∧ some k_ ≠ ((.slice Ao30 t2305.length co30) : Value).ownBlock ∧ some k_ ≠ ((.slice Ao37 t2313.length co37) : Value).ownBlock ∧ k_ ≠ gb2324 ∧ k_ ≠ gb2331 ∧ k_ ≠ gb2345 ∧ k_ ≠ gb2352 ∧ k_ ≠ gb2363) (.slice Ao63 t2334.length co63) t2334) ∧ Aside0 (wc.heap[gb2294]? = some (.cells #[.int .i64 t2285, .int .i64 t2286, (.slice Ao18 t2287.length co18)] 57 (0, 0))) ∧ Aside0 (wc.heap[gb2302]? = some (.cells #[.int .i64 t2295, .int .i64 t2296, (.slice Ao23 t2297.length co23)] 57 (0, 0))) ∧ Aside0 (wc.heap[gb2310]? = some (.cells #[.int .i64 t2303, .int .i64 t2304, (.slice Ao30 t2305.length co30)] 57 (0, 0))) ∧ Aside0 (wc.heap[gb2317]? = some (.cells #[.int .i64 t2311, .int .i64 t2312, (.slice Ao37 t2313.length co37)] 57 (0, 0))) ∧ Aside0 (wc.heap[gb2324]? = some (.cells #[.int .i64 t2318, .string t2319, .string t2320, .int .i64 t2321, .int .i64 t2322] 69 (0, 0))) ∧ Aside0 (wc.heap[gb2331]? = some (.cells #[.int .i64 t2325, .string t2326, .string t2327, .int .i64 t2328, .int .i64 t2329] 69 (0, 0))) ∧ Aside0 (wc.heap[gb2338]? = some (.cells #[.int .i64 t2332, .int .i64 t2333, (.slice Ao63 t2334.length co63)] 57 (0, 0))) ∧ Aside0 (wc.heap[gb2345]? = some (.cells #[.int .i64 t2339, .string t2340, .string t2341, .int .i64 t2342, .int .i64 t2343] 69 (0, 0))) ∧ Aside0 (wc.heap[gb2352]? = some (.cells #[.int .i64 t2346, .string t2347, .string t2348, .int .i64 t2349, .int .i64 t2350] 69 (0, 0))) ∧ Aside0 (wc.heap[gb2363]? = some (.cells #[.int .i64 t2357, .string t2358, .string t2359, .int .i64 t2360, .int .i64 t2361] 69 (0, 0))) ∧ Aside0 (Below w.heap.size w wc))
         case first =>
          as_aux_lemma =>
          have H := HC144.out
          clear HC144
          by_cases c166 : t2362 = 0
          ·
           as_aux_lemma =>
           rw [if_pos c166] at H
           have c166b0 : (t2362 == 0) = true := beq_iff_eq.mpr c166
           have c166b1 : (t2362 != 0) = false := bne_eq_false_iff_eq.mpr c166
           clear c166
           (first | rw [c166b0] | (simp only [i64_w, i32_w]; rw [c166b0]) | rw [c166b4] | rw [c166b3] | skip)
           by_cases c167 : t2357 = t2300
           ·
            as_aux_lemma =>
            rw [if_pos c167] at H
            have c167b0 : (t2357 == t2300) = true := beq_iff_eq.mpr c167
            have c167b1 : (t2357 != t2300) = false := bne_eq_false_iff_eq.mpr c167
            clear c167
            by_cases c168 : t2358.toList = t2290.toList
            ·
             as_aux_lemma =>
             rw [if_pos c168] at H
             have c168b0 : (t2358.toList == t2290.toList) = true := beq_iff_eq.mpr c168
             have c168b1 : (t2358.toList != t2290.toList) = false := bne_eq_false_iff_eq.mpr c168
             clear c168
             by_cases c169 : t2359.toList = t2291.toList
             ·
              rw [if_pos c169] at H
              have c169b0 : (t2359.toList == t2291.toList) = true := beq_iff_eq.mpr c169
              have c169b1 : (t2359.toList != t2291.toList) = false := bne_eq_false_iff_eq.mpr c169
              clear c169
              have H' := Aside0.mk H
              clear H
              have hnb170 := NB2363_2294.out
              have hnc170 := NB2294_2363.out
              have hnb171 := NB2363_2302.out
              have hnc171 := NB2302_2363.out
              have hnb172 := NB2363_2310.out
              have hnc172 := NB2310_2363.out
              have hnb173 := NB2363_2317.out
              have hnc173 := NB2317_2363.out
              have hnb174 := NB2363_2324.out
              have hnc174 := NB2324_2363.out
              have hnb175 := NB2363_2331.out
              have hnc175 := NB2331_2363.out
              have hnb176 := NB2363_2338.out
              have hnc176 := NB2338_2363.out
              have hnb177 := NB2363_2345.out
              have hnc177 := NB2345_2363.out
              have hnb178 := NB2363_2352.out
              have hnc178 := NB2352_2363.out
              have hcz179_0 : w155.cell? ⟨gb2363, 0, none⟩ = some (.int .i64 0) := bc_ BK2363 0
              have hcz179_1 : w155.cell? ⟨gb2363, 1, none⟩ = some (.string (⟨#[]⟩ : ByteArray)) := bc_ BK2363 1
              have hcz179_2 : w155.cell? ⟨gb2363, 2, none⟩ = some (.string (⟨#[]⟩ : ByteArray)) := bc_ BK2363 2
              have hcz179_3 : w155.cell? ⟨gb2363, 3, none⟩ = some (.int .i64 0) := bc_ BK2363 3
              have hcz179_4 : w155.cell? ⟨gb2363, 4, none⟩ = some (.int .i64 0) := bc_ BK2363 4
              have hfz179_0 := blk_frozen BK2363.out 0
              have hfz179_1 := blk_frozen BK2363.out 1
              have hfz179_2 := blk_frozen BK2363.out 2
              have hfz179_3 := blk_frozen BK2363.out 3
              have hfz179_4 := blk_frozen BK2363.out 4
              have hnb180 := NB2302_2294.out
              have hnc180 := NB2294_2302.out
              have hnb181 := NB2302_2310.out
              have hnc181 := NB2310_2302.out
              have hnb182 := NB2302_2317.out
              have hnc182 := NB2317_2302.out
              have hnb183 := NB2302_2324.out
              have hnc183 := NB2324_2302.out
              have hnb184 := NB2302_2331.out
              have hnc184 := NB2331_2302.out
              have hnb185 := NB2302_2338.out
              have hnc185 := NB2338_2302.out
              have hnb186 := NB2302_2345.out
              have hnc186 := NB2345_2302.out
              have hnb187 := NB2302_2352.out
              have hnc187 := NB2352_2302.out
              have hcz188_0 : w155.cell? ⟨gb2302, 0, none⟩ = some (.int .i64 t2295) := bc_ BK2302 0
              have hcz188_1 : w155.cell? ⟨gb2302, 1, none⟩ = some (.int .i64 t2296) := bc_ BK2302 1
              have hcz188_2 : w155.cell? ⟨gb2302, 2, none⟩ = some (.slice Ao23 t2297.length co23) := bc_ BK2302 2
              have hfz188_0 := blk_frozen BK2302.out 0
              have hfz188_1 := blk_frozen BK2302.out 1
              have hfz188_2 := blk_frozen BK2302.out 2
              go_wp2
              go_meet
              case rel => exact ⟨_, ((t2296 != (wrap64 (t2300 + 1)))), (qh15_), H', ⟨qh23_⟩, ⟨qh9_⟩, ⟨qh8_⟩, ⟨qh7_⟩, ⟨qh6_⟩, ⟨qh5_⟩, ⟨bf_ NB2294_2363.out BK2294.out⟩, ⟨bf_ NB2302_2363.out BK2302.out⟩, ⟨bf_ NB2310_2363.out BK2310.out⟩, ⟨bf_ NB2317_2363.out BK2317.out⟩, ⟨bf_ NB2324_2363.out BK2324.out⟩, ⟨bf_ NB2331_2363.out BK2331.out⟩, ⟨bf_ NB2338_2363.out BK2338.out⟩, ⟨bf_ NB2345_2363.out BK2345.out⟩, ⟨bf_ NB2352_2363.out BK2352.out⟩, ⟨bp_ BK2363.out⟩, ⟨hb_ HB.out⟩⟩
             ·
              rw [if_neg c169] at H
              have c169b0 : (t2359.toList == t2291.toList) = false := beq_eq_false_iff_ne.mpr c169
              have c169b1 : (t2359.toList != t2291.toList) = true := bne_iff_ne.mpr c169
              have H' := Aside0.mk H
              clear H
              have hnb189 := NB2363_2294.out
              have hnc189 := NB2294_2363.out
              have hnb190 := NB2363_2302.out
              have hnc190 := NB2302_2363.out
              have hnb191 := NB2363_2310.out
              have hnc191 := NB2310_2363.out
              have hnb192 := NB2363_2317.out
              have hnc192 := NB2317_2363.out
              have hnb193 := NB2363_2324.out
              have hnc193 := NB2324_2363.out
              have hnb194 := NB2363_2331.out
              have hnc194 := NB2331_2363.out
              have hnb195 := NB2363_2338.out
              have hnc195 := NB2338_2363.out
              have hnb196 := NB2363_2345.out
              have hnc196 := NB2345_2363.out
              have hnb197 := NB2363_2352.out
              have hnc197 := NB2352_2363.out
              have hcz198_0 : w155.cell? ⟨gb2363, 0, none⟩ = some (.int .i64 0) := bc_ BK2363 0
              have hcz198_1 : w155.cell? ⟨gb2363, 1, none⟩ = some (.string (⟨#[]⟩ : ByteArray)) := bc_ BK2363 1
              have hcz198_2 : w155.cell? ⟨gb2363, 2, none⟩ = some (.string (⟨#[]⟩ : ByteArray)) := bc_ BK2363 2
              have hcz198_3 : w155.cell? ⟨gb2363, 3, none⟩ = some (.int .i64 0) := bc_ BK2363 3
              have hcz198_4 : w155.cell? ⟨gb2363, 4, none⟩ = some (.int .i64 0) := bc_ BK2363 4
              have hfz198_0 := blk_frozen BK2363.out 0
              have hfz198_1 := blk_frozen BK2363.out 1
              have hfz198_2 := blk_frozen BK2363.out 2
              have hfz198_3 := blk_frozen BK2363.out 3
              have hfz198_4 := blk_frozen BK2363.out 4
              go_wp2
              go_meet
              case rel => exact ⟨_, (true), (qh15_), H', ⟨qh23_⟩, ⟨qh9_⟩, ⟨qh8_⟩, ⟨qh7_⟩, ⟨qh6_⟩, ⟨qh5_⟩, ⟨bf_ NB2294_2363.out BK2294.out⟩, ⟨bf_ NB2302_2363.out BK2302.out⟩, ⟨bf_ NB2310_2363.out BK2310.out⟩, ⟨bf_ NB2317_2363.out BK2317.out⟩, ⟨bf_ NB2324_2363.out BK2324.out⟩, ⟨bf_ NB2331_2363.out BK2331.out⟩, ⟨bf_ NB2338_2363.out BK2338.out⟩, ⟨bf_ NB2345_2363.out BK2345.out⟩, ⟨bf_ NB2352_2363.out BK2352.out⟩, ⟨bp_ BK2363.out⟩, ⟨hb_ HB.out⟩⟩
            ·
             rw [if_neg c168] at H
             have c168b0 : (t2358.toList == t2290.toList) = false := beq_eq_false_iff_ne.mpr c168
             have c168b1 : (t2358.toList != t2290.toList) = true := bne_iff_ne.mpr c168
             have H' := Aside0.mk H
             clear H
             have hnb199 := NB2363_2294.out
             have hnc199 := NB2294_2363.out
             have hnb200 := NB2363_2302.out
             have hnc200 := NB2302_2363.out
             have hnb201 := NB2363_2310.out
             have hnc201 := NB2310_2363.out
             have hnb202 := NB2363_2317.out
             have hnc202 := NB2317_2363.out
             have hnb203 := NB2363_2324.out
             have hnc203 := NB2324_2363.out
             have hnb204 := NB2363_2331.out
             have hnc204 := NB2331_2363.out
             have hnb205 := NB2363_2338.out
             have hnc205 := NB2338_2363.out
             have hnb206 := NB2363_2345.out
             have hnc206 := NB2345_2363.out
             have hnb207 := NB2363_2352.out
             have hnc207 := NB2352_2363.out
             have hcz208_0 : w155.cell? ⟨gb2363, 0, none⟩ = some (.int .i64 0) := bc_ BK2363 0
             have hcz208_1 : w155.cell? ⟨gb2363, 1, none⟩ = some (.string (⟨#[]⟩ : ByteArray)) := bc_ BK2363 1
             have hcz208_2 : w155.cell? ⟨gb2363, 2, none⟩ = some (.string (⟨#[]⟩ : ByteArray)) := bc_ BK2363 2
             have hcz208_3 : w155.cell? ⟨gb2363, 3, none⟩ = some (.int .i64 0) := bc_ BK2363 3
             have hcz208_4 : w155.cell? ⟨gb2363, 4, none⟩ = some (.int .i64 0) := bc_ BK2363 4
             have hfz208_0 := blk_frozen BK2363.out 0
             have hfz208_1 := blk_frozen BK2363.out 1
             have hfz208_2 := blk_frozen BK2363.out 2
             have hfz208_3 := blk_frozen BK2363.out 3
             have hfz208_4 := blk_frozen BK2363.out 4
             go_wp2
             go_meet
             case rel => exact ⟨_, (true), (qh15_), H', ⟨qh23_⟩, ⟨qh9_⟩, ⟨qh8_⟩, ⟨qh7_⟩, ⟨qh6_⟩, ⟨qh5_⟩, ⟨bf_ NB2294_2363.out BK2294.out⟩, ⟨bf_ NB2302_2363.out BK2302.out⟩, ⟨bf_ NB2310_2363.out BK2310.out⟩, ⟨bf_ NB2317_2363.out BK2317.out⟩, ⟨bf_ NB2324_2363.out BK2324.out⟩, ⟨bf_ NB2331_2363.out BK2331.out⟩, ⟨bf_ NB2338_2363.out BK2338.out⟩, ⟨bf_ NB2345_2363.out BK2345.out⟩, ⟨bf_ NB2352_2363.out BK2352.out⟩, ⟨bp_ BK2363.out⟩, ⟨hb_ HB.out⟩⟩
           ·
            rw [if_neg c167] at H
            have c167b0 : (t2357 == t2300) = false := beq_eq_false_iff_ne.mpr c167
            have c167b1 : (t2357 != t2300) = true := bne_iff_ne.mpr c167
            have H' := Aside0.mk H
            clear H
            have hnb209 := NB2363_2294.out
            have hnc209 := NB2294_2363.out
            have hnb210 := NB2363_2302.out
            have hnc210 := NB2302_2363.out
            have hnb211 := NB2363_2310.out
            have hnc211 := NB2310_2363.out
            have hnb212 := NB2363_2317.out
            have hnc212 := NB2317_2363.out
            have hnb213 := NB2363_2324.out
            have hnc213 := NB2324_2363.out
            have hnb214 := NB2363_2331.out
            have hnc214 := NB2331_2363.out
            have hnb215 := NB2363_2338.out
            have hnc215 := NB2338_2363.out
            have hnb216 := NB2363_2345.out
            have hnc216 := NB2345_2363.out
            have hnb217 := NB2363_2352.out
            have hnc217 := NB2352_2363.out
            have hcz218_0 : w155.cell? ⟨gb2363, 0, none⟩ = some (.int .i64 0) := bc_ BK2363 0
            have hcz218_1 : w155.cell? ⟨gb2363, 1, none⟩ = some (.string (⟨#[]⟩ : ByteArray)) := bc_ BK2363 1
            have hcz218_2 : w155.cell? ⟨gb2363, 2, none⟩ = some (.string (⟨#[]⟩ : ByteArray)) := bc_ BK2363 2
            have hcz218_3 : w155.cell? ⟨gb2363, 3, none⟩ = some (.int .i64 0) := bc_ BK2363 3
            have hcz218_4 : w155.cell? ⟨gb2363, 4, none⟩ = some (.int .i64 0) := bc_ BK2363 4
            have hfz218_0 := blk_frozen BK2363.out 0
            have hfz218_1 := blk_frozen BK2363.out 1
            have hfz218_2 := blk_frozen BK2363.out 2
            have hfz218_3 := blk_frozen BK2363.out 3
            have hfz218_4 := blk_frozen BK2363.out 4
            go_wp2
            go_meet
            case rel => exact ⟨_, (true), (qh15_), H', ⟨qh23_⟩, ⟨qh9_⟩, ⟨qh8_⟩, ⟨qh7_⟩, ⟨qh6_⟩, ⟨qh5_⟩, ⟨bf_ NB2294_2363.out BK2294.out⟩, ⟨bf_ NB2302_2363.out BK2302.out⟩, ⟨bf_ NB2310_2363.out BK2310.out⟩, ⟨bf_ NB2317_2363.out BK2317.out⟩, ⟨bf_ NB2324_2363.out BK2324.out⟩, ⟨bf_ NB2331_2363.out BK2331.out⟩, ⟨bf_ NB2338_2363.out BK2338.out⟩, ⟨bf_ NB2345_2363.out BK2345.out⟩, ⟨bf_ NB2352_2363.out BK2352.out⟩, ⟨bp_ BK2363.out⟩, ⟨hb_ HB.out⟩⟩
          ·
           rw [if_neg c166] at H
           have c166b0 : (t2362 == 0) = false := beq_eq_false_iff_ne.mpr c166
           have c166b1 : (t2362 != 0) = true := bne_iff_ne.mpr c166
           (first | rw [c166b0] | (simp only [i64_w, i32_w]; rw [c166b0]) | rw [c166b4] | rw [c166b3] | skip)
           have H' := Aside0.mk H
           clear H
           go_wp2
           go_meet
           case rel => exact ⟨_, (true), (qh15_), H', ⟨qh23_⟩, ⟨qh9_⟩, ⟨qh8_⟩, ⟨qh7_⟩, ⟨qh6_⟩, ⟨qh5_⟩, ⟨bf_ NB2294_2363.out BK2294.out⟩, ⟨bf_ NB2302_2363.out BK2302.out⟩, ⟨bf_ NB2310_2363.out BK2310.out⟩, ⟨bf_ NB2317_2363.out BK2317.out⟩, ⟨bf_ NB2324_2363.out BK2324.out⟩, ⟨bf_ NB2331_2363.out BK2331.out⟩, ⟨bf_ NB2338_2363.out BK2338.out⟩, ⟨bf_ NB2345_2363.out BK2345.out⟩, ⟨bf_ NB2352_2363.out BK2352.out⟩, ⟨bp_ BK2363.out⟩, ⟨hb_ HB.out⟩⟩
         case rest =>
          as_aux_lemma =>
          clear HC144
          (try clear hcz153_0); (try clear hcz153_1); (try clear hcz153_2); (try clear hcz165_0); (try clear hcz165_1); (try clear hcz165_2); (try clear hcz165_3); (try clear hcz165_4); (try clear hfz153_0); (try clear hfz153_1); (try clear hfz153_2); (try clear hfz165_0); (try clear hfz165_1); (try clear hfz165_2); (try clear hfz165_3); (try clear hfz165_4)
          obtain ⟨kq, x175_143, rfl, HA, HJ143, HO_2295002, HO_2303002, HO_2311002, HO_2318002, HO_2339002, BK2294, BK2302, BK2310, BK2317, BK2324, BK2331, BK2338, BK2345, BK2352, BK2363, HB⟩ := hcut
          cases kq with
          | zero => exact absurd HA.out (by simp [laws_FnRows.j4])
          | succ kj143 =>
           have H := HA.out
           clear HA
           simp only [laws_FnRows.j4] at H
           have HC219 := Aside0.mk H
           clear H
           go_upto_if 175 with (fail)
           go_cut [] (fun wc => ∃ (kq : Nat), Aside0 (laws_FnRows.j5 kq t2285 t2286 t2287 t2295 t2296 t2297 = some r) ∧ Aside0 (kq ≤ kj143) ∧ Aside0 (Kd.R k_Item 69 wc w.heap.size (fun k_ => some k_ ≠ ((.slice Ao23 t2297.length co23) : Value).ownBlock ∧ some k_ ≠ ((.slice Ao30 t2305.length co30) : Value).ownBlock ∧ some k_ ≠ ((.slice Ao37 t2313.length co37) : Value).ownBlock ∧ some k_ ≠ ((.slice Ao63 t2334.length co63) : Value).ownBlock ∧ k_ ≠ gb2324 ∧ k_ ≠ gb2331 ∧ k_ ≠ gb2345 ∧ k_ ≠ gb2352 ∧ k_ ≠ gb2363) (.slice Ao18 t2287.length co18) t2287) ∧ Aside0 (Kd.R k_Item 69 wc w.heap.size (fun k_ => some k_ ≠ ((.slice Ao18 t2287.length co18) : Value).ownBlock ∧ some k_ ≠ ((.slice Ao30 t2305.length co30) : Value).ownBlock ∧ some k_ ≠ ((.slice Ao37 t2313.length co37) : Value).ownBlock ∧ some k_ ≠ ((.slice Ao63 t2334.length co63) : Value).ownBlock ∧ k_ ≠ gb2324 ∧ k_ ≠ gb2331 ∧ k_ ≠ gb2345 ∧ k_ ≠ gb2352 ∧ k_ ≠ gb2363) (.slice Ao23 t2297.length co23) t2297) ∧ Aside0 (Kd.R k_Item 69 wc w.heap.size (fun k_ => some k_ ≠ ((.slice Ao18 t2287.length co18) : Value).ownBlock ∧ some k_ ≠ ((.slice Ao23 t2297.length co23) : Value).ownBlock ∧ some k_ ≠ ((.slice Ao37 t2313.length co37) : Value).ownBlock ∧ some k_ ≠ ((.slice Ao63 t2334.length co63) : Value).ownBlock ∧ k_ ≠ gb2324 ∧ k_ ≠ gb2331 ∧ k_ ≠ gb2345 ∧ k_ ≠ gb2352 ∧ k_ ≠ gb2363) (.slice Ao30 t2305.length co30) t2305) ∧ Aside0 (Kd.R k_Item 69 wc w.heap.size (fun k_ => some k_ ≠ ((.slice Ao18 t2287.length co18) : Value).ownBlock ∧ some k_ ≠ ((.slice Ao23 t2297.length co23) : Value).ownBlock ∧ some k_ ≠ ((.slice Ao30 t2305.length co30) : Value).ownBlock ∧ some k_ ≠ ((.slice Ao63 t2334.length co63) : Value).ownBlock ∧ k_ ≠ gb2324 ∧ k_ ≠ gb2331 ∧ k_ ≠ gb2345 ∧ k_ ≠ gb2352 ∧ k_ ≠ gb2363) (.slice Ao37 t2313.length co37) t2313) ∧ Aside0 (Kd.R k_Item 69 wc w.heap.size (fun k_ => some k_ ≠ ((.slice Ao18 t2287.length co18) : Value).ownBlock ∧ some k_ ≠ ((.slice Ao23 t2297.length co23) : Value).ownBlock ∧ some k_ ≠ ((.slice Ao30 t2305.length co30) : Value).ownBlock ∧ some k_ ≠ ((.slice Ao37 t2313.length co37) : Value).ownBlock ∧ k_ ≠ gb2324 ∧ k_ ≠ gb2331 ∧ k_ ≠ gb2345 ∧ k_ ≠ gb2352 ∧ k_ ≠ gb2363) (.slice Ao63 t2334.length co63) t2334) ∧ Aside0 (wc.heap[gb2294]? = some (.cells #[.int .i64 t2285, .int .i64 t2286, (.slice Ao18 t2287.length co18)] 57 (0, 0))) ∧ Aside0 (wc.heap[gb2302]? = some (.cells #[.int .i64 t2295, .int .i64 t2296, (.slice Ao23 t2297.length co23)] 57 (0, 0))) ∧ Aside0 (wc.heap[gb2310]? = some (.cells #[.int .i64 t2303, .int .i64 t2304, (.slice Ao30 t2305.length co30)] 57 (0, 0))) ∧ Aside0 (wc.heap[gb2317]? = some (.cells #[.int .i64 t2311, .int .i64 t2312, (.slice Ao37 t2313.length co37)] 57 (0, 0))) ∧ Aside0 (wc.heap[gb2324]? = some (.cells #[.int .i64 t2318, .string t2319, .string t2320, .int .i64 t2321, .int .i64 t2322] 69 (0, 0))) ∧ Aside0 (wc.heap[gb2331]? = some (.cells #[.int .i64 t2325, .string t2326, .string t2327, .int .i64 t2328, .int .i64 t2329] 69 (0, 0))) ∧ Aside0 (wc.heap[gb2338]? = some (.cells #[.int .i64 t2332, .int .i64 t2333, (.slice Ao63 t2334.length co63)] 57 (0, 0))) ∧ Aside0 (wc.heap[gb2345]? = some (.cells #[.int .i64 t2339, .string t2340, .string t2341, .int .i64 t2342, .int .i64 t2343] 69 (0, 0))) ∧ Aside0 (wc.heap[gb2352]? = some (.cells #[.int .i64 t2346, .string t2347, .string t2348, .int .i64 t2349, .int .i64 t2350] 69 (0, 0))) ∧ Aside0 (wc.heap[gb2363]? = some (.cells #[.int .i64 t2357, .string t2358, .string t2359, .int .i64 t2360, .int .i64 t2361] 69 (0, 0))) ∧ Aside0 (Below w.heap.size w wc))
           case first =>
            have H := HC219.out
            clear HC219
            by_cases c220 : x175_143 = true
            ·
             subst c220
             have H1 : (some false) = some r := by rw [if_pos rfl] at H; exact H
             clear H
             have H := H1
             clear H1
             obtain rfl := Option.some.inj H
             go_wp2
             go_ret
             exact ⟨er_, hb_ HB.out⟩
            ·
             replace c220 := Bool.eq_false_iff.mpr c220
             subst c220
             have H1 : (laws_FnRows.j5 kj143 t2285 t2286 t2287 t2295 t2296 t2297) = some r := by rw [if_neg (show ¬ (false = true) by decide)] at H; exact H
             clear H
             have H := H1
             clear H1
             have H' := Aside0.mk H
             clear H
             go_wp2
             go_meet
             case rel => exact ⟨_, H', ⟨by have := HJ2.out; have := HJ13.out; have := HJ119.out; have := HJ121.out; have := HJ143.out; first | omega | exact Nat.le_refl _⟩, ⟨rq_ HO_2295002.out⟩, ⟨rq_ HO_2303002.out⟩, ⟨rq_ HO_2311002.out⟩, ⟨rq_ HO_2318002.out⟩, ⟨rq_ HO_2339002.out⟩, ⟨bq_ BK2294.out⟩, ⟨bq_ BK2302.out⟩, ⟨bq_ BK2310.out⟩, ⟨bq_ BK2317.out⟩, ⟨bq_ BK2324.out⟩, ⟨bq_ BK2331.out⟩, ⟨bq_ BK2338.out⟩, ⟨bq_ BK2345.out⟩, ⟨bq_ BK2352.out⟩, ⟨bq_ BK2363.out⟩, ⟨hb_ HB.out⟩⟩
           case rest =>
            as_aux_lemma =>
            clear HC219
            obtain ⟨kq, HA, HJ218, HO_2295002, HO_2303002, HO_2311002, HO_2318002, HO_2339002, BK2294, BK2302, BK2310, BK2317, BK2324, BK2331, BK2338, BK2345, BK2352, BK2363, HB⟩ := hcut
            cases kq with
            | zero => exact absurd HA.out (by simp [laws_FnRows.j5])
            | succ kj218 =>
             have H := HA.out
             clear HA
             simp only [laws_FnRows.j5] at H
             have HC221 := Aside0.mk H
             clear H
             have hnb222 := NB2294_2302.out
             have hnc222 := NB2302_2294.out
             have hnb223 := NB2294_2310.out
             have hnc223 := NB2310_2294.out
             have hnb224 := NB2294_2317.out
             have hnc224 := NB2317_2294.out
             have hnb225 := NB2294_2324.out
             have hnc225 := NB2324_2294.out
             have hnb226 := NB2294_2331.out
             have hnc226 := NB2331_2294.out
             have hnb227 := NB2294_2338.out
             have hnc227 := NB2338_2294.out
             have hnb228 := NB2294_2345.out
             have hnc228 := NB2345_2294.out
             have hnb229 := NB2294_2352.out
             have hnc229 := NB2352_2294.out
             have hnb230 := NB2294_2363.out
             have hnc230 := NB2363_2294.out
             have hcz231_0 : wc.cell? ⟨gb2294, 0, none⟩ = some (.int .i64 t2285) := bc_ BK2294 0
             have hcz231_1 : wc.cell? ⟨gb2294, 1, none⟩ = some (.int .i64 t2286) := bc_ BK2294 1
             have hcz231_2 : wc.cell? ⟨gb2294, 2, none⟩ = some (.slice Ao18 t2287.length co18) := bc_ BK2294 2
             have hfz231_0 := blk_frozen BK2294.out 0
             have hfz231_1 := blk_frozen BK2294.out 1
             have hfz231_2 := blk_frozen BK2294.out 2
             go_upto_block 0 with (fail)
             go_cut [] (fun wc => ∃ (kq : Nat), Aside0 (laws_FnRows.j10 kq t2295 t2296 t2297 = some r) ∧ Aside0 (kq ≤ kj218) ∧ Aside0 (Kd.R k_Item 69 wc w.heap.size (fun k_ => some k_ ≠ ((.slice Ao23 t2297.length co23) : Value).ownBlock ∧ some k_ ≠ ((.slice Ao30 t2305.length co30) : Value).ownBlock ∧ some k_ ≠ ((.slice Ao37 t2313.length co37) : Value).ownBlock ∧ some k_ ≠ ((.slice Ao63 t2334.length co63) : Value).ownBlock ∧ k_ ≠ gb2324 ∧ k_ ≠ gb2331 ∧ k_ ≠ gb2345 ∧ k_ ≠ gb2352 ∧ k_ ≠ gb2363) (.slice Ao18 t2287.length co18) t2287) ∧ Aside0 (Kd.R k_Item 69 wc w.heap.size (fun k_ => some k_ ≠ ((.slice Ao18 t2287.length co18) : Value).ownBlock ∧ some k_ ≠ ((.slice Ao30 t2305.length co30) : Value).ownBlock ∧ some k_ ≠ ((.slice Ao37 t2313.length co37) : Value).ownBlock ∧ some k_ ≠ ((.slice Ao63 t2334.length co63) : Value).ownBlock ∧ k_ ≠ gb2324 ∧ k_ ≠ gb2331 ∧ k_ ≠ gb2345 ∧ k_ ≠ gb2352 ∧ k_ ≠ gb2363) (.slice Ao23 t2297.length co23) t2297) ∧ Aside0 (Kd.R k_Item 69 wc w.heap.size (fun k_ => some k_ ≠ ((.slice Ao18 t2287.length co18) : Value).ownBlock ∧ some k_ ≠ ((.slice Ao23 t2297.length co23) : Value).ownBlock ∧ some k_ ≠ ((.slice Ao37 t2313.length co37) : Value).ownBlock ∧ some k_ ≠ ((.slice Ao63 t2334.length co63) : Value).ownBlock ∧ k_ ≠ gb2324 ∧ k_ ≠ gb2331 ∧ k_ ≠ gb2345 ∧ k_ ≠ gb2352 ∧ k_ ≠ gb2363) (.slice Ao30 t2305.length co30) t2305) ∧ Aside0 (Kd.R k_Item 69 wc w.heap.size (fun k_ => some k_ ≠ ((.slice Ao18 t2287.length co18) : Value).ownBlock ∧ some k_ ≠ ((.slice Ao23 t2297.length co23) : Value).ownBlock ∧ some k_ ≠ ((.slice Ao30 t2305.length co30) : Value).ownBlock ∧ some k_ ≠ ((.slice Ao63 t2334.length co63) : Value).ownBlock ∧ k_ ≠ gb2324 ∧ k_ ≠ gb2331 ∧ k_ ≠ gb2345 ∧ k_ ≠ gb2352 ∧ k_ ≠ gb2363) (.slice Ao37 t2313.length co37) t2313) ∧ Aside0 (Kd.R k_Item 69 wc w.heap.size (fun k_ => some k_ ≠ ((.slice Ao18 t2287.length co18) : Value).ownBlock ∧ some k_ ≠ ((.slice Ao23 t2297.length co23) : Value).ownBlock ∧ some k_ ≠ ((.slice Ao30 t2305.length co30) : Value).ownBlock ∧ some k_ ≠ ((.slice Ao37 t2313.length co37) : Value).ownBlock ∧ k_ ≠ gb2324 ∧ k_ ≠ gb2331 ∧ k_ ≠ gb2345 ∧ k_ ≠ gb2352 ∧ k_ ≠ gb2363) (.slice Ao63 t2334.length co63) t2334) ∧ Aside0 (wc.heap[gb2294]? = some (.cells #[.int .i64 t2285, .int .i64 t2286, (.slice Ao18 t2287.length co18)] 57 (0, 0))) ∧ Aside0 (wc.heap[gb2302]? = some (.cells #[.int .i64 t2295, .int .i64 t2296, (.slice Ao23 t2297.length co23)] 57 (0, 0))) ∧ Aside0 (wc.heap[gb2310]? = some (.cells #[.int .i64 t2303, .int .i64 t2304, (.slice Ao30 t2305.length co30)] 57 (0, 0))) ∧ Aside0 (wc.heap[gb2317]? = some (.cells #[.int .i64 t2311, .int .i64 t2312, (.slice Ao37 t2313.length co37)] 57 (0, 0))) ∧ Aside0 (wc.heap[gb2324]? = some (.cells #[.int .i64 t2318, .string t2319, .string t2320, .int .i64 t2321, .int .i64 t2322] 69 (0, 0))) ∧ Aside0 (wc.heap[gb2331]? = some (.cells #[.int .i64 t2325, .string t2326, .string t2327, .int .i64 t2328, .int .i64 t2329] 69 (0, 0))) ∧ Aside0 (wc.heap[gb2338]? = some (.cells #[.int .i64 t2332, .int .i64 t2333, (.slice Ao63 t2334.length co63)] 57 (0, 0))) ∧ Aside0 (wc.heap[gb2345]? = some (.cells #[.int .i64 t2339, .string t2340, .string t2341, .int .i64 t2342, .int .i64 t2343] 69 (0, 0))) ∧ Aside0 (wc.heap[gb2352]? = some (.cells #[.int .i64 t2346, .string t2347, .string t2348, .int .i64 t2349, .int .i64 t2350] 69 (0, 0))) ∧ Aside0 (wc.heap[gb2363]? = some (.cells #[.int .i64 t2357, .string t2358, .string t2359, .int .i64 t2360, .int .i64 t2361] 69 (0, 0))) ∧ Aside0 (Below w.heap.size w wc))
             case first =>
              as_aux_lemma =>
              have H := HC221.out
              clear HC221
              have H' := Aside0.mk H
              clear H
              go_wp2
              go_loopg [28] kj218 (fun kq v28 w' => ∃ (x28_7 : Int), v28 = .int .i64 x28_7 ∧ Aside0 (laws_FnRows.l0 kq x28_7 t2285 t2286 t2287 t2295 t2296 t2297 = some r) ∧ Aside0 (kq ≤ kj218) ∧ Aside0 (Kd.R k_Item 69 w' w.heap.size (fun k_ => some k_ ≠ ((.slice Ao23 t2297.length co23) : Value).ownBlock ∧ some k_ ≠ ((.slice Ao30 t2305.length co30) : Value).ownBlock ∧ some k_ ≠ ((.slice Ao37 t2313.length co37) : Value).ownBlock ∧ some k_ ≠ ((.slice Ao63 t2334.length co63) : Value).ownBlock ∧ k_ ≠ gb2324 ∧ k_ ≠ gb2331 ∧ k_ ≠ gb2345 ∧ k_ ≠ gb2352 ∧ k_ ≠ gb2363) (.slice Ao18 t2287.length co18) t2287) ∧ Aside0 (Kd.R k_Item 69 w' w.heap.size (fun k_ => some k_ ≠ ((.slice Ao18 t2287.length co18) : Value).ownBlock ∧ some k_ ≠ ((.slice Ao30 t2305.length co30) : Value).ownBlock ∧ some k_ ≠ ((.slice Ao37 t2313.length co37) : Value).ownBlock ∧ some k_ ≠ ((.slice Ao63 t2334.length co63) : Value).ownBlock ∧ k_ ≠ gb2324 ∧ k_ ≠ gb2331 ∧ k_ ≠ gb2345 ∧ k_ ≠ gb2352 ∧ k_ ≠ gb2363) (.slice Ao23 t2297.length co23) t2297) ∧ Aside0 (Kd.R k_Item 69 w' w.heap.size (fun k_ => some k_ ≠ ((.slice Ao18 t2287.length co18) : Value).ownBlock ∧ some k_ ≠ ((.slice Ao23 t2297.length co23) : Value).ownBlock ∧ some k_ ≠ ((.slice Ao37 t2313.length co37) : Value).ownBlock ∧ some k_ ≠ ((.slice Ao63 t2334.length co63) : Value).ownBlock ∧ k_ ≠ gb2324 ∧ k_ ≠ gb2331 ∧ k_ ≠ gb2345 ∧ k_ ≠ gb2352 ∧ k_ ≠ gb2363) (.slice Ao30 t2305.length co30) t2305) ∧ Aside0 (Kd.R k_Item 69 w' w.heap.size (fun k_ => some k_ ≠ ((.slice Ao18 t2287.length co18) : Value).ownBlock ∧ some k_ ≠ ((.slice Ao23 t2297.length co23) : Value).ownBlock ∧ some k_ ≠ ((.slice Ao30 t2305.length co30) : Value).ownBlock ∧ some k_ ≠ ((.slice Ao63 t2334.length co63) : Value).ownBlock ∧ k_ ≠ gb2324 ∧ k_ ≠ gb2331 ∧ k_ ≠ gb2345 ∧ k_ ≠ gb2352 ∧ k_ ≠ gb2363) (.slice Ao37 t2313.length co37) t2313) ∧ Aside0 (Kd.R k_Item 69 w' w.heap.size (fun k_ => some k_ ≠ ((.slice Ao18 t2287.length co18) : Value).ownBlock ∧ some k_ ≠ ((.slice Ao23 t2297.length co23) : Value).ownBlock ∧ some k_ ≠ ((.slice Ao30 t2305.length co30) : Value).ownBlock ∧ some k_ ≠ ((.slice Ao37 t2313.length co37) : Value).ownBlock ∧ k_ ≠ gb2324 ∧ k_ ≠ gb2331 ∧ k_ ≠ gb2345 ∧ k_ ≠ gb2352 ∧ k_ ≠ gb2363) (.slice Ao63 t2334.length co63) t2334) ∧ Aside0 (w'.heap[gb2294]? = some (.cells #[.int .i64 t2285, .int .i64 t2286, (.slice Ao18 t2287.length co18)] 57 (0, 0))) ∧ Aside0 (w'.heap[gb2302]? = some (.cells #[.int .i64 t2295, .int .i64 t2296, (.slice Ao23 t2297.length co23)] 57 (0, 0))) ∧ Aside0 (w'.heap[gb2310]? = some (.cells #[.int .i64 t2303, .int .i64 t2304, (.slice Ao30 t2305.length co30)] 57 (0, 0))) ∧ Aside0 (w'.heap[gb2317]? = some (.cells #[.int .i64 t2311, .int .i64 t2312, (.slice Ao37 t2313.length co37)] 57 (0, 0))) ∧ Aside0 (w'.heap[gb2324]? = some (.cells #[.int .i64 t2318, .string t2319, .string t2320, .int .i64 t2321, .int .i64 t2322] 69 (0, 0))) ∧ Aside0 (w'.heap[gb2331]? = some (.cells #[.int .i64 t2325, .string t2326, .string t2327, .int .i64 t2328, .int .i64 t2329] 69 (0, 0))) ∧ Aside0 (w'.heap[gb2338]? = some (.cells #[.int .i64 t2332, .int .i64 t2333, (.slice Ao63 t2334.length co63)] 57 (0, 0))) ∧ Aside0 (w'.heap[gb2345]? = some (.cells #[.int .i64 t2339, .string t2340, .string t2341, .int .i64 t2342, .int .i64 t2343] 69 (0, 0))) ∧ Aside0 (w'.heap[gb2352]? = some (.cells #[.int .i64 t2346, .string t2347, .string t2348, .int .i64 t2349, .int .i64 t2350] 69 (0, 0))) ∧ Aside0 (w'.heap[gb2363]? = some (.cells #[.int .i64 t2357, .string t2358, .string t2359, .int .i64 t2360, .int .i64 t2361] 69 (0, 0))) ∧ Aside0 (Below w.heap.size w w'))
              case atStart => exact ⟨(t2285), (qh15_), H', ⟨Nat.le_refl _⟩, ⟨rq_ HO_2295002.out⟩, ⟨rq_ HO_2303002.out⟩, ⟨rq_ HO_2311002.out⟩, ⟨rq_ HO_2318002.out⟩, ⟨rq_ HO_2339002.out⟩, ⟨bq_ BK2294.out⟩, ⟨bq_ BK2302.out⟩, ⟨bq_ BK2310.out⟩, ⟨bq_ BK2317.out⟩, ⟨bq_ BK2324.out⟩, ⟨bq_ BK2331.out⟩, ⟨bq_ BK2338.out⟩, ⟨bq_ BK2345.out⟩, ⟨bq_ BK2352.out⟩, ⟨bq_ BK2363.out⟩, ⟨hb_ HB.out⟩⟩
              case round =>
               clear H'
               (try clear hcz231_0); (try clear hcz231_1); (try clear hcz231_2); (try clear hfz231_0); (try clear hfz231_1); (try clear hfz231_2)
               obtain ⟨x28_7, rfl, HA, HK7, HO_2295002, HO_2303002, HO_2311002, HO_2318002, HO_2339002, BK2294, BK2302, BK2310, BK2317, BK2324, BK2331, BK2338, BK2345, BK2352, BK2363, HB⟩ := hrel
               cases gk with
               | zero => exact absurd HA.out (by simp [laws_FnRows.l0])
               | succ k7 =>
                have H := HA.out
                clear HA
                simp only [laws_FnRows.l0] at H
                have HC232 := Aside0.mk H
                clear H
                go_upto_region 20 with (fail)
                go_cut [185] (fun v185 wc => ∃ (kq : Nat) (x185_231 : Bool), v185 = .bool x185_231 ∧ Aside0 (laws_FnRows.j7 kq x28_7 x185_231 t2285 t2286 t2287 t2295 t2296 t2297 = some r) ∧ Aside0 (kq ≤ k7) ∧ Aside0 (Kd.R k_Item 69 wc w.heap.size (fun k_ => some k_ ≠ ((.slice Ao23 t2297.length co23) : Value).ownBlock ∧ some k_ ≠ ((.slice Ao30 t2305.length co30) : Value).ownBlock ∧ some k_ ≠ ((.slice Ao37 t2313.length co37) : Value).ownBlock ∧ some k_ ≠ ((.slice Ao63 t2334.length co63) : Value).ownBlock ∧ k_ ≠ gb2324 ∧ k_ ≠ gb2331 ∧ k_ ≠ gb2345 ∧ k_ ≠ gb2352 ∧ k_ ≠ gb2363) (.slice Ao18 t2287.length co18) t2287) ∧ Aside0 (Kd.R k_Item 69 wc w.heap.size (fun k_ => some k_ ≠ ((.slice Ao18 t2287.length co18) : Value).ownBlock ∧ some k_ ≠ ((.slice Ao30 t2305.length co30) : Value).ownBlock ∧ some k_ ≠ ((.slice Ao37 t2313.length co37) : Value).ownBlock ∧ some k_ ≠ ((.slice Ao63 t2334.length co63) : Value).ownBlock ∧ k_ ≠ gb2324 ∧ k_ ≠ gb2331 ∧ k_ ≠ gb2345 ∧ k_ ≠ gb2352 ∧ k_ ≠ gb2363) (.slice Ao23 t2297.length co23) t2297) ∧ Aside0 (Kd.R k_Item 69 wc w.heap.size (fun k_ => some k_ ≠ ((.slice Ao18 t2287.length co18) : Value).ownBlock ∧ some k_ ≠ ((.slice Ao23 t2297.length co23) : Value).ownBlock ∧ some k_ ≠ ((.slice Ao37 t2313.length co37) : Value).ownBlock ∧ some k_ ≠ ((.slice Ao63 t2334.length co63) : Value).ownBlock ∧ k_ ≠ gb2324 ∧ k_ ≠ gb2331 ∧ k_ ≠ gb2345 ∧ k_ ≠ gb2352 ∧ k_ ≠ gb2363) (.slice Ao30 t2305.length co30) t2305) ∧ Aside0 (Kd.R k_Item 69 wc w.heap.size (fun k_ => some k_ ≠ ((.slice Ao18 t2287.length co18) : Value).ownBlock ∧ some k_ ≠ ((.slice Ao23 t2297.length co23) : Value).ownBlock ∧ some k_ ≠ ((.slice Ao30 t2305.length co30) : Value).ownBlock ∧ some k_ ≠ ((.slice Ao63 t2334.length co63) : Value).ownBlock ∧ k_ ≠ gb2324 ∧ k_ ≠ gb2331 ∧ k_ ≠ gb2345 ∧ k_ ≠ gb2352 ∧ k_ ≠ gb2363) (.slice Ao37 t2313.length co37) t2313) ∧ Aside0 (Kd.R k_Item 69 wc w.heap.size (fun k_ => some k_ ≠ ((.slice Ao18 t2287.length co18) : Value).ownBlock ∧ some k_ ≠ ((.slice Ao23 t2297.length co23) : Value).ownBlock ∧ some k_ ≠ ((.slice Ao30 t2305.length co30) : Value).ownBlock ∧ some k_ ≠ ((.slice Ao37 t2313.length co37) : Value).ownBlock ∧ k_ ≠ gb2324 ∧ k_ ≠ gb2331 ∧ k_ ≠ gb2345 ∧ k_ ≠ gb2352 ∧ k_ ≠ gb2363) (.slice Ao63 t2334.length co63) t2334) ∧ Aside0 (wc.heap[gb2294]? = some (.cells #[.int .i64 t2285, .int .i64 t2286, (.slice Ao18 t2287.length co18)] 57 (0, 0))) ∧ Aside0 (wc.heap[gb2302]? = some (.cells #[.int .i64 t2295, .int .i64 t2296, (.slice Ao23 t2297.length co23)] 57 (0, 0))) ∧ Aside0 (wc.heap[gb2310]? = some (.cells #[.int .i64 t2303, .int .i64 t2304, (.slice Ao30 t2305.length co30)] 57 (0, 0))) ∧ Aside0 (wc.heap[gb2317]? = some (.cells #[.int .i64 t2311, .int .i64 t2312, (.slice Ao37 t2313.length co37)] 57 (0, 0))) ∧ Aside0 (wc.heap[gb2324]? = some (.cells #[.int .i64 t2318, .string t2319, .string t2320, .int .i64 t2321, .int .i64 t2322] 69 (0, 0))) ∧ Aside0 (wc.heap[gb2331]? = some (.cells #[.int .i64 t2325, .string t2326, .string t2327, .int .i64 t2328, .int .i64 t2329] 69 (0, 0))) ∧ Aside0 (wc.heap[gb2338]? = some (.cells #[.int .i64 t2332, .int .i64 t2333, (.slice Ao63 t2334.length co63)] 57 (0, 0))) ∧ Aside0 (wc.heap[gb2345]? = some (.cells #[.int .i64 t2339, .string t2340, .string t2341, .int .i64 t2342, .int .i64 t2343] 69 (0, 0))) ∧ Aside0 (wc.heap[gb2352]? = some (.cells #[.int .i64 t2346, .string t2347, .string t2348, .int .i64 t2349, .int .i64 t2350] 69 (0, 0))) ∧ Aside0 (wc.heap[gb2363]? = some (.cells #[.int .i64 t2357, .string t2358, .string t2359, .int .i64 t2360, .int .i64 t2361] 69 (0, 0))) ∧ Aside0 (Below w.heap.size w wc))
                case first =>
                 have H := HC232.out
                 clear HC232
                 by_cases c233 : x28_7 < t2286
                 ·
                  rw [if_pos c233] at H
                  have c233b0 : decide (x28_7 < t2286) = true := decide_eq_true c233
                  clear c233
                  (first | rw [c233b0] | (simp only [i64_w, i32_w]; rw [c233b0]) | rw [c233b4] | rw [c233b3] | skip)
                  have H' := Aside0.mk H
                  clear H
                  have hnb234 := NB2294_2302.out
                  have hnc234 := NB2302_2294.out
                  have hnb235 := NB2294_2310.out
                  have hnc235 := NB2310_2294.out
                  have hnb236 := NB2294_2317.out
                  have hnc236 := NB2317_2294.out
                  have hnb237 := NB2294_2324.out
                  have hnc237 := NB2324_2294.out
                  have hnb238 := NB2294_2331.out
                  have hnc238 := NB2331_2294.out
                  have hnb239 := NB2294_2338.out
                  have hnc239 := NB2338_2294.out
                  have hnb240 := NB2294_2345.out
                  have hnc240 := NB2345_2294.out
                  have hnb241 := NB2294_2352.out
                  have hnc241 := NB2352_2294.out
                  have hnb242 := NB2294_2363.out
                  have hnc242 := NB2363_2294.out
                  have hcz243_0 : wr.cell? ⟨gb2294, 0, none⟩ = some (.int .i64 t2285) := bc_ BK2294 0
                  have hcz243_1 : wr.cell? ⟨gb2294, 1, none⟩ = some (.int .i64 t2286) := bc_ BK2294 1
                  have hcz243_2 : wr.cell? ⟨gb2294, 2, none⟩ = some (.slice Ao18 t2287.length co18) := bc_ BK2294 2
                  have hfz243_0 := blk_frozen BK2294.out 0
                  have hfz243_1 := blk_frozen BK2294.out 1
                  have hfz243_2 := blk_frozen BK2294.out 2
                  go_wp2
                  go_meet
                  case rel => exact ⟨_, (decide (x28_7 < 100)), (qh15_), H', ⟨qh28_⟩, ⟨rq_ HO_2295002.out⟩, ⟨rq_ HO_2303002.out⟩, ⟨rq_ HO_2311002.out⟩, ⟨rq_ HO_2318002.out⟩, ⟨rq_ HO_2339002.out⟩, ⟨bq_ BK2294.out⟩, ⟨bq_ BK2302.out⟩, ⟨bq_ BK2310.out⟩, ⟨bq_ BK2317.out⟩, ⟨bq_ BK2324.out⟩, ⟨bq_ BK2331.out⟩, ⟨bq_ BK2338.out⟩, ⟨bq_ BK2345.out⟩, ⟨bq_ BK2352.out⟩, ⟨bq_ BK2363.out⟩, ⟨hb_ HB.out⟩⟩
                 ·
                  rw [if_neg c233] at H
                  have c233b0 : decide (x28_7 < t2286) = false := decide_eq_false c233
                  clear c233
                  (first | rw [c233b0] | (simp only [i64_w, i32_w]; rw [c233b0]) | rw [c233b4] | rw [c233b3] | skip)
                  have H' := Aside0.mk H
                  clear H
                  have hnb244 := NB2294_2302.out
                  have hnc244 := NB2302_2294.out
                  have hnb245 := NB2294_2310.out
                  have hnc245 := NB2310_2294.out
                  have hnb246 := NB2294_2317.out
                  have hnc246 := NB2317_2294.out
                  have hnb247 := NB2294_2324.out
                  have hnc247 := NB2324_2294.out
                  have hnb248 := NB2294_2331.out
                  have hnc248 := NB2331_2294.out
                  have hnb249 := NB2294_2338.out
                  have hnc249 := NB2338_2294.out
                  have hnb250 := NB2294_2345.out
                  have hnc250 := NB2345_2294.out
                  have hnb251 := NB2294_2352.out
                  have hnc251 := NB2352_2294.out
                  have hnb252 := NB2294_2363.out
                  have hnc252 := NB2363_2294.out
                  have hcz253_0 : wr.cell? ⟨gb2294, 0, none⟩ = some (.int .i64 t2285) := bc_ BK2294 0
                  have hcz253_1 : wr.cell? ⟨gb2294, 1, none⟩ = some (.int .i64 t2286) := bc_ BK2294 1
                  have hcz253_2 : wr.cell? ⟨gb2294, 2, none⟩ = some (.slice Ao18 t2287.length co18) := bc_ BK2294 2
                  have hfz253_0 := blk_frozen BK2294.out 0
                  have hfz253_1 := blk_frozen BK2294.out 1
                  have hfz253_2 := blk_frozen BK2294.out 2
                  go_wp2
                  go_meet
                  case rel => exact ⟨_, (false), (qh15_), H', ⟨qh28_⟩, ⟨rq_ HO_2295002.out⟩, ⟨rq_ HO_2303002.out⟩, ⟨rq_ HO_2311002.out⟩, ⟨rq_ HO_2318002.out⟩, ⟨rq_ HO_2339002.out⟩, ⟨bq_ BK2294.out⟩, ⟨bq_ BK2302.out⟩, ⟨bq_ BK2310.out⟩, ⟨bq_ BK2317.out⟩, ⟨bq_ BK2324.out⟩, ⟨bq_ BK2331.out⟩, ⟨bq_ BK2338.out⟩, ⟨bq_ BK2345.out⟩, ⟨bq_ BK2352.out⟩, ⟨bq_ BK2363.out⟩, ⟨hb_ HB.out⟩⟩
                case rest =>
                 as_aux_lemma =>
                 clear HC232
                 obtain ⟨kq, x185_231, rfl, HA, HJ231, HO_2295002, HO_2303002, HO_2311002, HO_2318002, HO_2339002, BK2294, BK2302, BK2310, BK2317, BK2324, BK2331, BK2338, BK2345, BK2352, BK2363, HB⟩ := hcut
                 cases kq with
                 | zero => exact absurd HA.out (by simp [laws_FnRows.j7])
                 | succ kj231 =>
                  have H := HA.out
                  clear HA
                  simp only [laws_FnRows.j7] at H
                  have HC254 := Aside0.mk H
                  clear H
                  go_upto_if 185 with (fail)
                  go_cut [] (fun wc => ∃ (kq : Nat), Aside0 (laws_FnRows.j8 kq x28_7 t2285 t2286 t2287 t2295 t2296 t2297 = some r) ∧ Aside0 (kq ≤ kj231) ∧ Aside0 (Kd.R k_Item 69 wc w.heap.size (fun k_ => some k_ ≠ ((.slice Ao23 t2297.length co23) : Value).ownBlock ∧ some k_ ≠ ((.slice Ao30 t2305.length co30) : Value).ownBlock ∧ some k_ ≠ ((.slice Ao37 t2313.length co37) : Value).ownBlock ∧ some k_ ≠ ((.slice Ao63 t2334.length co63) : Value).ownBlock ∧ k_ ≠ gb2324 ∧ k_ ≠ gb2331 ∧ k_ ≠ gb2345 ∧ k_ ≠ gb2352 ∧ k_ ≠ gb2363) (.slice Ao18 t2287.length co18) t2287) ∧ Aside0 (Kd.R k_Item 69 wc w.heap.size (fun k_ => some k_ ≠ ((.slice Ao18 t2287.length co18) : Value).ownBlock ∧ some k_ ≠ ((.slice Ao30 t2305.length co30) : Value).ownBlock ∧ some k_ ≠ ((.slice Ao37 t2313.length co37) : Value).ownBlock ∧ some k_ ≠ ((.slice Ao63 t2334.length co63) : Value).ownBlock ∧ k_ ≠ gb2324 ∧ k_ ≠ gb2331 ∧ k_ ≠ gb2345 ∧ k_ ≠ gb2352 ∧ k_ ≠ gb2363) (.slice Ao23 t2297.length co23) t2297) ∧ Aside0 (Kd.R k_Item 69 wc w.heap.size (fun k_ => some k_ ≠ ((.slice Ao18 t2287.length co18) : Value).ownBlock ∧ some k_ ≠ ((.slice Ao23 t2297.length co23) : Value).ownBlock ∧ some k_ ≠ ((.slice Ao37 t2313.length co37) : Value).ownBlock ∧ some k_ ≠ ((.slice Ao63 t2334.length co63) : Value).ownBlock ∧ k_ ≠ gb2324 ∧ k_ ≠ gb2331 ∧ k_ ≠ gb2345 ∧ k_ ≠ gb2352 ∧ k_ ≠ gb2363) (.slice Ao30 t2305.length co30) t2305) ∧ Aside0 (Kd.R k_Item 69 wc w.heap.size (fun k_ => some k_ ≠ ((.slice Ao18 t2287.length co18) : Value).ownBlock ∧ some k_ ≠ ((.slice Ao23 t2297.length co23) : Value).ownBlock ∧ some k_ ≠ ((.slice Ao30 t2305.length co30) : Value).ownBlock ∧ some k_ ≠ ((.slice Ao63 t2334.length co63) : Value).ownBlock ∧ k_ ≠ gb2324 ∧ k_ ≠ gb2331 ∧ k_ ≠ gb2345 ∧ k_ ≠ gb2352 ∧ k_ ≠ gb2363) (.slice Ao37 t2313.length co37) t2313) ∧ Aside0 (Kd.R k_Item 69 wc w.heap.size (fun k_ => some k_ ≠ ((.slice Ao18 t2287.length co18) : Value).ownBlock ∧ some k_ ≠ ((.slice Ao23 t2297.length co23) : Value).ownBlock ∧ some k_ ≠ ((.slice Ao30 t2305.length co30) : Value).ownBlock ∧ some k_ ≠ ((.slice Ao37 t2313.length co37) : Value).ownBlock ∧ k_ ≠ gb2324 ∧ k_ ≠ gb2331 ∧ k_ ≠ gb2345 ∧ k_ ≠ gb2352 ∧ k_ ≠ gb2363) (.slice Ao63 t2334.length co63) t2334) ∧ Aside0 (wc.heap[gb2294]? = some (.cells #[.int .i64 t2285, .int .i64 t2286, (.slice Ao18 t2287.length co18)] 57 (0, 0))) ∧ Aside0 (wc.heap[gb2302]? = some (.cells #[.int .i64 t2295, .int .i64 t2296, (.slice Ao23 t2297.length co23)] 57 (0, 0))) ∧ Aside0 (wc.heap[gb2310]? = some (.cells #[.int .i64 t2303, .int .i64 t2304, (.slice Ao30 t2305.length co30)] 57 (0, 0))) ∧ Aside0 (wc.heap[gb2317]? = some (.cells #[.int .i64 t2311, .int .i64 t2312, (.slice Ao37 t2313.length co37)] 57 (0, 0))) ∧ Aside0 (wc.heap[gb2324]? = some (.cells #[.int .i64 t2318, .string t2319, .string t2320, .int .i64 t2321, .int .i64 t2322] 69 (0, 0))) ∧ Aside0 (wc.heap[gb2331]? = some (.cells #[.int .i64 t2325, .string t2326, .string t2327, .int .i64 t2328, .int .i64 t2329] 69 (0, 0))) ∧ Aside0 (wc.heap[gb2338]? = some (.cells #[.int .i64 t2332, .int .i64 t2333, (.slice Ao63 t2334.length co63)] 57 (0, 0))) ∧ Aside0 (wc.heap[gb2345]? = some (.cells #[.int .i64 t2339, .string t2340, .string t2341, .int .i64 t2342, .int .i64 t2343] 69 (0, 0))) ∧ Aside0 (wc.heap[gb2352]? = some (.cells #[.int .i64 t2346, .string t2347, .string t2348, .int .i64 t2349, .int .i64 t2350] 69 (0, 0))) ∧ Aside0 (wc.heap[gb2363]? = some (.cells #[.int .i64 t2357, .string t2358, .string t2359, .int .i64 t2360, .int .i64 t2361] 69 (0, 0))) ∧ Aside0 (Below w.heap.size w wc))
                  case first =>
                   have H := HC254.out
                   clear HC254
                   by_cases c255 : x185_231 = true
                   ·
                    subst c255
                    have H1 : (laws_FnRows.j8 kj231 x28_7 t2285 t2286 t2287 t2295 t2296 t2297) = some r := by rw [if_pos rfl] at H; exact H
                    clear H
                    have H := H1
                    clear H1
                    have H' := Aside0.mk H
                    clear H
                    go_wp2
                    go_meet
                    case rel => exact ⟨_, H', ⟨qh27_⟩, ⟨rq_ HO_2295002.out⟩, ⟨rq_ HO_2303002.out⟩, ⟨rq_ HO_2311002.out⟩, ⟨rq_ HO_2318002.out⟩, ⟨rq_ HO_2339002.out⟩, ⟨bq_ BK2294.out⟩, ⟨bq_ BK2302.out⟩, ⟨bq_ BK2310.out⟩, ⟨bq_ BK2317.out⟩, ⟨bq_ BK2324.out⟩, ⟨bq_ BK2331.out⟩, ⟨bq_ BK2338.out⟩, ⟨bq_ BK2345.out⟩, ⟨bq_ BK2352.out⟩, ⟨bq_ BK2363.out⟩, ⟨hb_ HB.out⟩⟩
                   ·
                    replace c255 := Bool.eq_false_iff.mpr c255
                    subst c255
                    have H1 : (laws_FnRows.j10 kj231 t2295 t2296 t2297) = some r := by rw [if_neg (show ¬ (false = true) by decide)] at H; exact H
                    clear H
                    have H := H1
                    clear H1
                    have H' := Aside0.mk H
                    clear H
                    go_wp2
                    go_meet
                    case rel => exact ⟨_, H', ⟨qh27_⟩, ⟨rq_ HO_2295002.out⟩, ⟨rq_ HO_2303002.out⟩, ⟨rq_ HO_2311002.out⟩, ⟨rq_ HO_2318002.out⟩, ⟨rq_ HO_2339002.out⟩, ⟨bq_ BK2294.out⟩, ⟨bq_ BK2302.out⟩, ⟨bq_ BK2310.out⟩, ⟨bq_ BK2317.out⟩, ⟨bq_ BK2324.out⟩, ⟨bq_ BK2331.out⟩, ⟨bq_ BK2338.out⟩, ⟨bq_ BK2345.out⟩, ⟨bq_ BK2352.out⟩, ⟨bq_ BK2363.out⟩, ⟨hb_ HB.out⟩⟩
                  case rest =>
                   as_aux_lemma =>
                   clear HC254
                   obtain ⟨kq, HA, HJ253, HO_2295002, HO_2303002, HO_2311002, HO_2318002, HO_2339002, BK2294, BK2302, BK2310, BK2317, BK2324, BK2331, BK2338, BK2345, BK2352, BK2363, HB⟩ := hcut
                   cases kq with
                   | zero => exact absurd HA.out (by simp [laws_FnRows.j8])
                   | succ kj253 =>
                    have H := HA.out
                    clear HA
                    simp only [laws_FnRows.j8] at H
                    replace H := Option.bind_eq_some_iff.mp H
                    obtain ⟨⟨t2364, t2365, t2366, t2367, t2368, t2369⟩, A2560, H⟩ := H
                    replace H : ((impl_RowGet.f kj253 t2295 t2296 t2297 x28_7).bind fun bt2371 => (if t2369 = 0 then (if bt2371.2.2.2.2.2 = t2369 then (laws_FnRows.j9 kj253 x28_7 (!(t2364 == bt2371.1) || (!(t2365.toList == bt2371.2.1.toList) || (!(t2366.toList == bt2371.2.2.1.toList) || (!(t2367 == bt2371.2.2.2.1) || (!(t2368 == bt2371.2.2.2.2.1)))))) t2285 t2286 t2287 t2295 t2296 t2297) else (laws_FnRows.j9 kj253 x28_7 true t2285 t2286 t2287 t2295 t2296 t2297)) else (laws_FnRows.j9 kj253 x28_7 false t2285 t2286 t2287 t2295 t2296 t2297))) = some r := H
                    have A256 := Aside0.mk A2560
                    clear A2560
                    replace H := Option.bind_eq_some_iff.mp H
                    obtain ⟨⟨t2371, t2372, t2373, t2374, t2375, t2376⟩, A2570, H⟩ := H
                    replace H : (if t2369 = 0 then (if t2376 = t2369 then (laws_FnRows.j9 kj253 x28_7 (!(t2364 == t2371) || (!(t2365.toList == t2372.toList) || (!(t2366.toList == t2373.toList) || (!(t2367 == t2374) || (!(t2368 == t2375)))))) t2285 t2286 t2287 t2295 t2296 t2297) else (laws_FnRows.j9 kj253 x28_7 true t2285 t2286 t2287 t2295 t2296 t2297)) else (laws_FnRows.j9 kj253 x28_7 false t2285 t2286 t2287 t2295 t2296 t2297)) = some r := H
                    have A257 := Aside0.mk A2570
                    clear A2570
                    have HC258 := Aside0.mk H
                    clear H
                    have hnb259 := NB2294_2302.out
                    have hnc259 := NB2302_2294.out
                    have hnb260 := NB2294_2310.out
                    have hnc260 := NB2310_2294.out
                    have hnb261 := NB2294_2317.out
                    have hnc261 := NB2317_2294.out
                    have hnb262 := NB2294_2324.out
                    have hnc262 := NB2324_2294.out
                    have hnb263 := NB2294_2331.out
                    have hnc263 := NB2331_2294.out
                    have hnb264 := NB2294_2338.out
                    have hnc264 := NB2338_2294.out
                    have hnb265 := NB2294_2345.out
                    have hnc265 := NB2345_2294.out
                    have hnb266 := NB2294_2352.out
                    have hnc266 := NB2352_2294.out
                    have hnb267 := NB2294_2363.out
                    have hnc267 := NB2363_2294.out
                    have hcz268_0 : wc.cell? ⟨gb2294, 0, none⟩ = some (.int .i64 t2285) := bc_ BK2294 0
                    have hcz268_1 : wc.cell? ⟨gb2294, 1, none⟩ = some (.int .i64 t2286) := bc_ BK2294 1
                    have hcz268_2 : wc.cell? ⟨gb2294, 2, none⟩ = some (.slice Ao18 t2287.length co18) := bc_ BK2294 2
                    have hfz268_0 := blk_frozen BK2294.out 0
                    have hfz268_1 := blk_frozen BK2294.out 1
                    have hfz268_2 := blk_frozen BK2294.out 2
                    go_upto_region 24 with (first | ((with_reducible refine gate_callee (f := 38) rfl ?_); refine goesL_ (some 191) rfl rfl Try.func38 (by kernel_rfl) rfl #[.agg #[.int .i64 t2285, .int .i64 t2286, .slice Ao18 t2287.length co18], .int .i64 x28_7] rfl sm_ ?_; (with_reducible refine (impl_RowGet.calls kj253 t2285 t2286 _ _ t2287 x28_7 t2364 t2365 t2366 t2367 t2368 t2369 _ ?side1 ?side2 A256.out).mono ?_); (case side1 => repeat (first | exact (Kd.R_reads' HO_2295002.out).2.2 | (with_reducible refine Kd.C_alloc ?_ _) | (with_reducible refine Kd.C_drewN ?_ _) | (with_reducible refine Kd.C_drew ?_))); (case side2 => exact (Kd.R_reads' HO_2295002.out).2.1); rintro e w269 ⟨rfl, hb⟩; refine ⟨_, rfl, ?_⟩; replace HO_2295002 := cr_ HO_2295002 hb; replace HO_2303002 := cr_ HO_2303002 hb; replace HO_2311002 := cr_ HO_2311002 hb; replace HO_2318002 := cr_ HO_2318002 hb; replace HO_2339002 := cr_ HO_2339002 hb; replace BK2294 := cb_ BK2294 hb; replace BK2302 := cb_ BK2302 hb; replace BK2310 := cb_ BK2310 hb; replace BK2317 := cb_ BK2317 hb; replace BK2324 := cb_ BK2324 hb; replace BK2331 := cb_ BK2331 hb; replace BK2338 := cb_ BK2338 hb; replace BK2345 := cb_ BK2345 hb; replace BK2352 := cb_ BK2352 hb; replace BK2363 := cb_ BK2363 hb; replace HB := ch_ HB hb; (try clear hb); (try clear hb2); (try clear hk); (try clear hi)) | ((with_reducible refine gate_dst (N := 29) rfl ?_); refine box_event ?hg (N := 29) ?hd (cs := #[.int .i64 0, .string (⟨#[]⟩ : ByteArray), .string (⟨#[]⟩ : ByteArray), .int .i64 0, .int .i64 0]) (t := 69) ?hr ?_; (case hd => rfl); (case hg => rfl); (case hr => first | (go_simp; done) | (go_simp; rfl)); intro gb2370 hg w270 hbox hb; have BK2370 := Aside0.mk (hbox); have GW2370 := cz_ HB hg; have GE2370 := cz_ HB hg; have NB2294_2370 := cn_ BK2294 hg; have NB2370_2294 := cm_ BK2294 hg; have NB2302_2370 := cn_ BK2302 hg; have NB2370_2302 := cm_ BK2302 hg; have NB2310_2370 := cn_ BK2310 hg; have NB2370_2310 := cm_ BK2310 hg; have NB2317_2370 := cn_ BK2317 hg; have NB2370_2317 := cm_ BK2317 hg; have NB2324_2370 := cn_ BK2324 hg; have NB2370_2324 := cm_ BK2324 hg; have NB2331_2370 := cn_ BK2331 hg; have NB2370_2331 := cm_ BK2331 hg; have NB2338_2370 := cn_ BK2338 hg; have NB2370_2338 := cm_ BK2338 hg; have NB2345_2370 := cn_ BK2345 hg; have NB2370_2345 := cm_ BK2345 hg; have NB2352_2370 := cn_ BK2352 hg; have NB2370_2352 := cm_ BK2352 hg; have NB2363_2370 := cn_ BK2363 hg; have NB2370_2363 := cm_ BK2363 hg; replace HO_2295002 := Aside0.mk (Kd.R_below (Kd.R_elderB (rq_ HO_2295002.out) gb2370 (Nat.le_of_eq hg.symm)) hb); replace HO_2303002 := Aside0.mk (Kd.R_below (Kd.R_elderB (rq_ HO_2303002.out) gb2370 (Nat.le_of_eq hg.symm)) hb); replace HO_2311002 := Aside0.mk (Kd.R_below (Kd.R_elderB (rq_ HO_2311002.out) gb2370 (Nat.le_of_eq hg.symm)) hb); replace HO_2318002 := Aside0.mk (Kd.R_below (Kd.R_elderB (rq_ HO_2318002.out) gb2370 (Nat.le_of_eq hg.symm)) hb); replace HO_2339002 := Aside0.mk (Kd.R_below (Kd.R_elderB (rq_ HO_2339002.out) gb2370 (Nat.le_of_eq hg.symm)) hb); replace BK2294 := cb_ BK2294 hb; replace BK2302 := cb_ BK2302 hb; replace BK2310 := cb_ BK2310 hb; replace BK2317 := cb_ BK2317 hb; replace BK2324 := cb_ BK2324 hb; replace BK2331 := cb_ BK2331 hb; replace BK2338 := cb_ BK2338 hb; replace BK2345 := cb_ BK2345 hb; replace BK2352 := cb_ BK2352 hb; replace BK2363 := cb_ BK2363 hb; replace HB := ch_ HB hb; clear hb hbox hg; have hnb271 := NB2370_2294.out; have hnc271 := NB2294_2370.out; have hnb272 := NB2370_2302.out; have hnc272 := NB2302_2370.out; have hnb273 := NB2370_2310.out; have hnc273 := NB2310_2370.out; have hnb274 := NB2370_2317.out; have hnc274 := NB2317_2370.out; have hnb275 := NB2370_2324.out; have hnc275 := NB2324_2370.out; have hnb276 := NB2370_2331.out; have hnc276 := NB2331_2370.out; have hnb277 := NB2370_2338.out; have hnc277 := NB2338_2370.out; have hnb278 := NB2370_2345.out; have hnc278 := NB2345_2370.out; have hnb279 := NB2370_2352.out; have hnc279 := NB2352_2370.out; have hnb280 := NB2370_2363.out; have hnc280 := NB2363_2370.out; have hcz281_0 : w270.cell? ⟨gb2370, 0, none⟩ = some (.int .i64 0) := bc_ BK2370 0; have hcz281_1 : w270.cell? ⟨gb2370, 1, none⟩ = some (.string (⟨#[]⟩ : ByteArray)) := bc_ BK2370 1; have hcz281_2 : w270.cell? ⟨gb2370, 2, none⟩ = some (.string (⟨#[]⟩ : ByteArray)) := bc_ BK2370 2; have hcz281_3 : w270.cell? ⟨gb2370, 3, none⟩ = some (.int .i64 0) := bc_ BK2370 3; have hcz281_4 : w270.cell? ⟨gb2370, 4, none⟩ = some (.int .i64 0) := bc_ BK2370 4; have hfz281_0 := blk_frozen BK2370.out 0; have hfz281_1 := blk_frozen BK2370.out 1; have hfz281_2 := blk_frozen BK2370.out 2; have hfz281_3 := blk_frozen BK2370.out 3; have hfz281_4 := blk_frozen BK2370.out 4; have hnb282 := NB2302_2310.out; have hnc282 := NB2310_2302.out; have hnb283 := NB2302_2317.out; have hnc283 := NB2317_2302.out; have hnb284 := NB2302_2324.out; have hnc284 := NB2324_2302.out; have hnb285 := NB2302_2331.out; have hnc285 := NB2331_2302.out; have hnb286 := NB2302_2338.out; have hnc286 := NB2338_2302.out; have hnb287 := NB2302_2345.out; have hnc287 := NB2345_2302.out; have hnb288 := NB2302_2352.out; have hnc288 := NB2352_2302.out; have hnb289 := NB2302_2363.out; have hnc289 := NB2363_2302.out; have hcz290_0 : w270.cell? ⟨gb2302, 0, none⟩ = some (.int .i64 t2295) := bc_ BK2302 0; have hcz290_1 : w270.cell? ⟨gb2302, 1, none⟩ = some (.int .i64 t2296) := bc_ BK2302 1; have hcz290_2 : w270.cell? ⟨gb2302, 2, none⟩ = some (.slice Ao23 t2297.length co23) := bc_ BK2302 2; have hfz290_0 := blk_frozen BK2302.out 0; have hfz290_1 := blk_frozen BK2302.out 1; have hfz290_2 := blk_frozen BK2302.out 2) | ((with_reducible refine gate_callee (f := 38) rfl ?_); refine goesL_ (some 197) rfl rfl Try.func38 (by kernel_rfl) rfl #[.agg #[.int .i64 t2295, .int .i64 t2296, .slice Ao23 t2297.length co23], .int .i64 x28_7] rfl sm_ ?_; (with_reducible refine (impl_RowGet.calls kj253 t2295 t2296 _ _ t2297 x28_7 t2371 t2372 t2373 t2374 t2375 t2376 _ ?side1 ?side2 A257.out).mono ?_); (case side1 => refine (Kd.R_reads' (e := 69) (base := w.heap.size) (ok := fun k_ => ((some k_ ≠ (.slice Ao18 t2287.length co18 : Value).ownBlock ∧ (some k_ ≠ (.slice Ao30 t2305.length co30 : Value).ownBlock ∧ (some k_ ≠ (.slice Ao37 t2313.length co37 : Value).ownBlock ∧ (some k_ ≠ (.slice Ao63 t2334.length co63 : Value).ownBlock ∧ (k_ ≠ gb2324 ∧ (k_ ≠ gb2331 ∧ (k_ ≠ gb2345 ∧ (k_ ≠ gb2352 ∧ k_ ≠ gb2363)))))))) ∧ k_ ≠ gb2370)) (n := t2297.length) (c := co23) ?_).2.2; exact (qh16_)); (case side2 => exact (Kd.R_reads' HO_2303002.out).2.1); rintro e w291 ⟨rfl, hb⟩; refine ⟨_, rfl, ?_⟩; replace HO_2295002 := Aside0.mk (Kd.R_below (by (with_reducible repeat (first | apply Kd.R_alloc | apply Kd.R_drewN | apply Kd.R_drew)); exact (Kd.R_mono (Kd.R_far (p := ⟨gb2370, 4, none⟩) (Kd.R_far (p := ⟨gb2370, 3, none⟩) (Kd.R_far (p := ⟨gb2370, 2, none⟩) (Kd.R_far (p := ⟨gb2370, 1, none⟩) (Kd.R_far (p := ⟨gb2370, 0, none⟩) (Kd.R_mono HO_2295002.out (fun k_ hk => (⟨hk, hk.2⟩ : _ ∧ k_ ≠ gb2370))) (fun _ hk => hk.2) (.int .i64 t2364)) (fun _ hk => hk.2) (.string t2365)) (fun _ hk => hk.2) (.string t2366)) (fun _ hk => hk.2) (.int .i64 t2367)) (fun _ hk => hk.2) (.int .i64 t2368)) (fun _ h_ => h_.1))) hb); replace HO_2303002 := Aside0.mk (Kd.R_below (qh16_) hb); replace HO_2311002 := Aside0.mk (Kd.R_below (by (with_reducible repeat (first | apply Kd.R_alloc | apply Kd.R_drewN | apply Kd.R_drew)); exact (Kd.R_mono (Kd.R_far (p := ⟨gb2370, 4, none⟩) (Kd.R_far (p := ⟨gb2370, 3, none⟩) (Kd.R_far (p := ⟨gb2370, 2, none⟩) (Kd.R_far (p := ⟨gb2370, 1, none⟩) (Kd.R_far (p := ⟨gb2370, 0, none⟩) (Kd.R_mono HO_2311002.out (fun k_ hk => (⟨hk, hk.2⟩ : _ ∧ k_ ≠ gb2370))) (fun _ hk => hk.2) (.int .i64 t2364)) (fun _ hk => hk.2) (.string t2365)) (fun _ hk => hk.2) (.string t2366)) (fun _ hk => hk.2) (.int .i64 t2367)) (fun _ hk => hk.2) (.int .i64 t2368)) (fun _ h_ => h_.1))) hb); replace HO_2318002 := Aside0.mk (Kd.R_below (by (with_reducible repeat (first | apply Kd.R_alloc | apply Kd.R_drewN | apply Kd.R_drew)); exact (Kd.R_mono (Kd.R_far (p := ⟨gb2370, 4, none⟩) (Kd.R_far (p := ⟨gb2370, 3, none⟩) (Kd.R_far (p := ⟨gb2370, 2, none⟩) (Kd.R_far (p := ⟨gb2370, 1, none⟩) (Kd.R_far (p := ⟨gb2370, 0, none⟩) (Kd.R_mono HO_2318002.out (fun k_ hk => (⟨hk, hk.2⟩ : _ ∧ k_ ≠ gb2370))) (fun _ hk => hk.2) (.int .i64 t2364)) (fun _ hk => hk.2) (.string t2365)) (fun _ hk => hk.2) (.string t2366)) (fun _ hk => hk.2) (.int .i64 t2367)) (fun _ hk => hk.2) (.int .i64 t2368)) (fun _ h_ => h_.1))) hb); replace HO_2339002 := Aside0.mk (Kd.R_below (by (with_reducible repeat (first | apply Kd.R_alloc | apply Kd.R_drewN | apply Kd.R_drew)); exact (Kd.R_mono (Kd.R_far (p := ⟨gb2370, 4, none⟩) (Kd.R_far (p := ⟨gb2370, 3, none⟩) (Kd.R_far (p := ⟨gb2370, 2, none⟩) (Kd.R_far (p := ⟨gb2370, 1, none⟩) (Kd.R_far (p := ⟨gb2370, 0, none⟩) (Kd.R_mono HO_2339002.out (fun k_ hk => (⟨hk, hk.2⟩ : _ ∧ k_ ≠ gb2370))) (fun _ hk => hk.2) (.int .i64 t2364)) (fun _ hk => hk.2) (.string t2365)) (fun _ hk => hk.2) (.string t2366)) (fun _ hk => hk.2) (.int .i64 t2367)) (fun _ hk => hk.2) (.int .i64 t2368)) (fun _ h_ => h_.1))) hb); replace BK2294 := Aside0.mk (blk_below (g := gb2294) (o := .cells #[.int .i64 t2285, .int .i64 t2286, .slice Ao18 t2287.length co18] 57 (0, 0)) (bf_ NB2294_2370.out BK2294.out) hb); replace BK2302 := Aside0.mk (blk_below (g := gb2302) (o := .cells #[.int .i64 t2295, .int .i64 t2296, .slice Ao23 t2297.length co23] 57 (0, 0)) (bf_ NB2302_2370.out BK2302.out) hb); replace BK2310 := Aside0.mk (blk_below (g := gb2310) (o := .cells #[.int .i64 t2303, .int .i64 t2304, .slice Ao30 t2305.length co30] 57 (0, 0)) (bf_ NB2310_2370.out BK2310.out) hb); replace BK2317 := Aside0.mk (blk_below (g := gb2317) (o := .cells #[.int .i64 t2311, .int .i64 t2312, .slice Ao37 t2313.length co37] 57 (0, 0)) (bf_ NB2317_2370.out BK2317.out) hb); replace BK2324 := Aside0.mk (blk_below (g := gb2324) (o := .cells #[.int .i64 t2318, .string t2319, .string t2320, .int .i64 t2321, .int .i64 t2322] 69 (0, 0)) (bf_ NB2324_2370.out BK2324.out) hb); replace BK2331 := Aside0.mk (blk_below (g := gb2331) (o := .cells #[.int .i64 t2325, .string t2326, .string t2327, .int .i64 t2328, .int .i64 t2329] 69 (0, 0)) (bf_ NB2331_2370.out BK2331.out) hb); replace BK2338 := Aside0.mk (blk_below (g := gb2338) (o := .cells #[.int .i64 t2332, .int .i64 t2333, .slice Ao63 t2334.length co63] 57 (0, 0)) (bf_ NB2338_2370.out BK2338.out) hb); replace BK2345 := Aside0.mk (blk_below (g := gb2345) (o := .cells #[.int .i64 t2339, .string t2340, .string t2341, .int .i64 t2342, .int .i64 t2343] 69 (0, 0)) (bf_ NB2345_2370.out BK2345.out) hb); replace BK2352 := Aside0.mk (blk_below (g := gb2352) (o := .cells #[.int .i64 t2346, .string t2347, .string t2348, .int .i64 t2349, .int .i64 t2350] 69 (0, 0)) (bf_ NB2352_2370.out BK2352.out) hb); replace BK2363 := Aside0.mk (blk_below (g := gb2363) (o := .cells #[.int .i64 t2357, .string t2358, .string t2359, .int .i64 t2360, .int .i64 t2361] 69 (0, 0)) (bf_ NB2363_2370.out BK2363.out) hb); replace BK2370 := Aside0.mk (blk_below (g := gb2370) (o := .cells #[.int .i64 t2364, .string t2365, .string t2366, .int .i64 t2367, .int .i64 t2368] 69 (0, 0)) (bp_ BK2370.out) hb); replace HB := ch_ HB hb; (try clear hb); (try clear hb2); (try clear hk); (try clear hi)) | ((with_reducible refine gate_dst (N := 31) rfl ?_); refine box_event ?hg (N := 31) ?hd (cs := #[.int .i64 0, .string (⟨#[]⟩ : ByteArray), .string (⟨#[]⟩ : ByteArray), .int .i64 0, .int .i64 0]) (t := 69) ?hr ?_; (case hd => rfl); (case hg => rfl); (case hr => first | (go_simp; done) | (go_simp; rfl)); intro gb2377 hg w292 hbox hb; have BK2377 := Aside0.mk (hbox); have GW2377 := cz_ HB hg; have GE2377 := cz_ HB hg; have NB2294_2377 := cn_ BK2294 hg; have NB2377_2294 := cm_ BK2294 hg; have NB2302_2377 := cn_ BK2302 hg; have NB2377_2302 := cm_ BK2302 hg; have NB2310_2377 := cn_ BK2310 hg; have NB2377_2310 := cm_ BK2310 hg; have NB2317_2377 := cn_ BK2317 hg; have NB2377_2317 := cm_ BK2317 hg; have NB2324_2377 := cn_ BK2324 hg; have NB2377_2324 := cm_ BK2324 hg; have NB2331_2377 := cn_ BK2331 hg; have NB2377_2331 := cm_ BK2331 hg; have NB2338_2377 := cn_ BK2338 hg; have NB2377_2338 := cm_ BK2338 hg; have NB2345_2377 := cn_ BK2345 hg; have NB2377_2345 := cm_ BK2345 hg; have NB2352_2377 := cn_ BK2352 hg; have NB2377_2352 := cm_ BK2352 hg; have NB2363_2377 := cn_ BK2363 hg; have NB2377_2363 := cm_ BK2363 hg; have NB2370_2377 := cn_ BK2370 hg; have NB2377_2370 := cm_ BK2370 hg; replace HO_2295002 := Aside0.mk (Kd.R_below (Kd.R_elderB (rq_ HO_2295002.out) gb2377 (Nat.le_of_eq hg.symm)) hb); replace HO_2303002 := Aside0.mk (Kd.R_below (Kd.R_elderB (rq_ HO_2303002.out) gb2377 (Nat.le_of_eq hg.symm)) hb); replace HO_2311002 := Aside0.mk (Kd.R_below (Kd.R_elderB (rq_ HO_2311002.out) gb2377 (Nat.le_of_eq hg.symm)) hb); replace HO_2318002 := Aside0.mk (Kd.R_below (Kd.R_elderB (rq_ HO_2318002.out) gb2377 (Nat.le_of_eq hg.symm)) hb); replace HO_2339002 := Aside0.mk (Kd.R_below (Kd.R_elderB (rq_ HO_2339002.out) gb2377 (Nat.le_of_eq hg.symm)) hb); replace BK2294 := cb_ BK2294 hb; replace BK2302 := cb_ BK2302 hb; replace BK2310 := cb_ BK2310 hb; replace BK2317 := cb_ BK2317 hb; replace BK2324 := cb_ BK2324 hb; replace BK2331 := cb_ BK2331 hb; replace BK2338 := cb_ BK2338 hb; replace BK2345 := cb_ BK2345 hb; replace BK2352 := cb_ BK2352 hb; replace BK2363 := cb_ BK2363 hb; replace BK2370 := cb_ BK2370 hb; replace HB := ch_ HB hb; clear hb hbox hg; have hnb293 := NB2377_2294.out; have hnc293 := NB2294_2377.out; have hnb294 := NB2377_2302.out; have hnc294 := NB2302_2377.out; have hnb295 := NB2377_2310.out; have hnc295 := NB2310_2377.out; have hnb296 := NB2377_2317.out; have hnc296 := NB2317_2377.out; have hnb297 := NB2377_2324.out; have hnc297 := NB2324_2377.out; have hnb298 := NB2377_2331.out; have hnc298 := NB2331_2377.out; have hnb299 := NB2377_2338.out; have hnc299 := NB2338_2377.out; have hnb300 := NB2377_2345.out; have hnc300 := NB2345_2377.out; have hnb301 := NB2377_2352.out; have hnc301 := NB2352_2377.out; have hnb302 := NB2377_2363.out; have hnc302 := NB2363_2377.out; have hnb303 := NB2377_2370.out; have hnc303 := NB2370_2377.out; have hcz304_0 : w292.cell? ⟨gb2377, 0, none⟩ = some (.int .i64 0) := bc_ BK2377 0; have hcz304_1 : w292.cell? ⟨gb2377, 1, none⟩ = some (.string (⟨#[]⟩ : ByteArray)) := bc_ BK2377 1; have hcz304_2 : w292.cell? ⟨gb2377, 2, none⟩ = some (.string (⟨#[]⟩ : ByteArray)) := bc_ BK2377 2; have hcz304_3 : w292.cell? ⟨gb2377, 3, none⟩ = some (.int .i64 0) := bc_ BK2377 3; have hcz304_4 : w292.cell? ⟨gb2377, 4, none⟩ = some (.int .i64 0) := bc_ BK2377 4; have hfz304_0 := blk_frozen BK2377.out 0; have hfz304_1 := blk_frozen BK2377.out 1; have hfz304_2 := blk_frozen BK2377.out 2; have hfz304_3 := blk_frozen BK2377.out 3; have hfz304_4 := blk_frozen BK2377.out 4))
                    (try simp only [Act.put, List.setIfInBounds_toArray, List.set_cons_zero, List.set_cons_succ])
                    go_cut [211] (fun v211 wc => ∃ (kq : Nat) (x211_257 : Bool), v211 = .bool x211_257 ∧ Aside0 (laws_FnRows.j9 kq x28_7 x211_257 t2285 t2286 t2287 t2295 t2296 t2297 = some r) ∧ Aside0 (kq ≤ kj253) ∧ Aside0 (Kd.R k_Item 69 wc w.heap.size (fun k_ => some k_ ≠ ((.slice Ao23 t2297.length co23) : Value).ownBlock ∧ some k_ ≠ ((.slice Ao30 t2305.length co30) : Value).ownBlock ∧ some k_ ≠ ((.slice Ao37 t2313.length co37) : Value).ownBlock ∧ some k_ ≠ ((.slice Ao63 t2334.length co63) : Value).ownBlock ∧ k_ ≠ gb2324 ∧ k_ ≠ gb2331 ∧ k_ ≠ gb2345 ∧ k_ ≠ gb2352 ∧ k_ ≠ gb2363 ∧ k_ ≠ gb2370 ∧ k_ ≠ gb2377) (.slice Ao18 t2287.length co18) t2287) ∧ Aside0 (Kd.R k_Item 69 wc w.heap.size (fun k_ => some k_ ≠ ((.slice Ao18 t2287.length co18) : Value).ownBlock ∧ some k_ ≠ ((.slice Ao30 t2305.length co30) : Value).ownBlock ∧ some k_ ≠ ((.slice Ao37 t2313.length co37) : Value).ownBlock ∧ some k_ ≠ ((.slice Ao63 t2334.length co63) : Value).ownBlock ∧ k_ ≠ gb2324 ∧ k_ ≠ gb2331 ∧ k_ ≠ gb2345 ∧ k_ ≠ gb2352 ∧ k_ ≠ gb2363 ∧ k_ ≠ gb2370 ∧ k_ ≠ gb2377) (.slice Ao23 t2297.length co23) t2297) ∧ Aside0 (Kd.R k_Item 69 wc w.heap.size (fun k_ => some k_ ≠ ((.slice Ao18 t2287.length co18) : Value).ownBlock ∧ some k_ ≠ ((.slice Ao23 t2297.length co23) : Value).ownBlock ∧ some k_ ≠ ((.slice Ao37 t2313.length co37) : Value).ownBlock ∧ some k_ ≠ ((.slice Ao63 t2334.length co63) : Value).ownBlock ∧ k_ ≠ gb2324 ∧ k_ ≠ gb2331 ∧ k_ ≠ gb2345 ∧ k_ ≠ gb2352 ∧ k_ ≠ gb2363 ∧ k_ ≠ gb2370 ∧ k_ ≠ gb2377) (.slice Ao30 t2305.length co30) t2305) ∧ Aside0 (Kd.R k_Item 69 wc w.heap.size (fun k_ => some k_ ≠ ((.slice Ao18 t2287.length co18) : Value).ownBlock ∧ some k_ ≠ ((.slice Ao23 t2297.length co23) : Value).ownBlock ∧ some k_ ≠ ((.slice Ao30 t2305.length co30) : Value).ownBlock ∧ some k_ ≠ ((.slice Ao63 t2334.length co63) : Value).ownBlock ∧ k_ ≠ gb2324 ∧ k_ ≠ gb2331 ∧ k_ ≠ gb2345 ∧ k_ ≠ gb2352 ∧ k_ ≠ gb2363 ∧ k_ ≠ gb2370 ∧ k_ ≠ gb2377) (.slice Ao37 t2313.length co37) t2313) ∧ Aside0 (Kd.R k_Item 69 wc w.heap.size (fun k_ => some k_ ≠ ((.slice Ao18 t2287.length co18) : Value).ownBlock ∧ some k_ ≠ ((.slice Ao23 t2297.length co23) : Value).ownBlock ∧ some k_ ≠ ((.slice Ao30 t2305.length co30) : Value).ownBlock ∧ some k_ ≠ ((.slice Ao37 t2313.length co37) : Value).ownBlock ∧ k_ ≠ gb2324 ∧ k_ ≠ gb2331 ∧ k_ ≠ gb2345 ∧ k_ ≠ gb2352 ∧ k_ ≠ gb2363 ∧ k_ ≠ gb2370 ∧ k_ ≠ gb2377) (.slice Ao63 t2334.length co63) t2334) ∧ Aside0 (wc.heap[gb2294]? = some (.cells #[.int .i64 t2285, .int .i64 t2286, (.slice Ao18 t2287.length co18)] 57 (0, 0))) ∧ Aside0 (wc.heap[gb2302]? = some (.cells #[.int .i64 t2295, .int .i64 t2296, (.slice Ao23 t2297.length co23)] 57 (0, 0))) ∧ Aside0 (wc.heap[gb2310]? = some (.cells #[.int .i64 t2303, .int .i64 t2304, (.slice Ao30 t2305.length co30)] 57 (0, 0))) ∧ Aside0 (wc.heap[gb2317]? = some (.cells #[.int .i64 t2311, .int .i64 t2312, (.slice Ao37 t2313.length co37)] 57 (0, 0))) ∧ Aside0 (wc.heap[gb2324]? = some (.cells #[.int .i64 t2318, .string t2319, .string t2320, .int .i64 t2321, .int .i64 t2322] 69 (0, 0))) ∧ Aside0 (wc.heap[gb2331]? = some (.cells #[.int .i64 t2325, .string t2326, .string t2327, .int .i64 t2328, .int .i64 t2329] 69 (0, 0))) ∧ Aside0 (wc.heap[gb2338]? = some (.cells #[.int .i64 t2332, .int .i64 t2333, (.slice Ao63 t2334.length co63)] 57 (0, 0))) ∧ Aside0 (wc.heap[gb2345]? = some (.cells #[.int .i64 t2339, .string t2340, .string t2341, .int .i64 t2342, .int .i64 t2343] 69 (0, 0))) ∧ Aside0 (wc.heap[gb2352]? = some (.cells #[.int .i64 t2346, .string t2347, .string t2348, .int .i64 t2349, .int .i64 t2350] 69 (0, 0))) ∧ Aside0 (wc.heap[gb2363]? = some (.cells #[.int .i64 t2357, .string t2358, .string t2359, .int .i64 t2360, .int .i64 t2361] 69 (0, 0))) ∧ Aside0 (wc.heap[gb2370]? = some (.cells #[.int .i64 t2364, .string t2365, .string t2366, .int .i64 t2367, .int .i64 t2368] 69 (0, 0))) ∧ Aside0 (wc.heap[gb2377]? = some (.cells #[.int .i64 t2371, .string t2372, .string t2373, .int .i64 t2374, .int .i64 t2375] 69 (0, 0))) ∧ Aside0 (Below w.heap.size w wc))
                    case first =>
                     as_aux_lemma =>
                     have H := HC258.out
                     clear HC258
                     by_cases c305 : t2369 = 0
                     ·
                      rw [if_pos c305] at H
                      have c305b0 : (t2369 == 0) = true := beq_iff_eq.mpr c305
                      have c305b1 : (t2369 != 0) = false := bne_eq_false_iff_eq.mpr c305
                      clear c305
                      (first | rw [c305b0] | (simp only [i64_w, i32_w]; rw [c305b0]) | rw [c305b4] | rw [c305b3] | skip)
                      by_cases c306 : t2376 = t2369
                      ·
                       rw [if_pos c306] at H
                       have c306b0 : (t2376 == t2369) = true := beq_iff_eq.mpr c306
                       have c306b1 : (t2376 != t2369) = false := bne_eq_false_iff_eq.mpr c306
                       clear c306
                       have H' := Aside0.mk H
                       clear H
                       have hnb307 := NB2370_2294.out
                       have hnc307 := NB2294_2370.out
                       have hnb308 := NB2370_2302.out
                       have hnc308 := NB2302_2370.out
                       have hnb309 := NB2370_2310.out
                       have hnc309 := NB2310_2370.out
                       have hnb310 := NB2370_2317.out
                       have hnc310 := NB2317_2370.out
                       have hnb311 := NB2370_2324.out
                       have hnc311 := NB2324_2370.out
                       have hnb312 := NB2370_2331.out
                       have hnc312 := NB2331_2370.out
                       have hnb313 := NB2370_2338.out
                       have hnc313 := NB2338_2370.out
                       have hnb314 := NB2370_2345.out
                       have hnc314 := NB2345_2370.out
                       have hnb315 := NB2370_2352.out
                       have hnc315 := NB2352_2370.out
                       have hnb316 := NB2370_2363.out
                       have hnc316 := NB2363_2370.out
                       have hnb317 := NB2370_2377.out
                       have hnc317 := NB2377_2370.out
                       have hcz318_0 : w292.cell? ⟨gb2370, 0, none⟩ = some (.int .i64 t2364) := bc_ BK2370 0
                       have hcz318_1 : w292.cell? ⟨gb2370, 1, none⟩ = some (.string t2365) := bc_ BK2370 1
                       have hcz318_2 : w292.cell? ⟨gb2370, 2, none⟩ = some (.string t2366) := bc_ BK2370 2
                       have hcz318_3 : w292.cell? ⟨gb2370, 3, none⟩ = some (.int .i64 t2367) := bc_ BK2370 3
                       have hcz318_4 : w292.cell? ⟨gb2370, 4, none⟩ = some (.int .i64 t2368) := bc_ BK2370 4
                       have hfz318_0 := blk_frozen BK2370.out 0
                       have hfz318_1 := blk_frozen BK2370.out 1
                       have hfz318_2 := blk_frozen BK2370.out 2
                       have hfz318_3 := blk_frozen BK2370.out 3
                       have hfz318_4 := blk_frozen BK2370.out 4
                       have hnb319 := NB2377_2294.out
                       have hnc319 := NB2294_2377.out
                       have hnb320 := NB2377_2302.out
                       have hnc320 := NB2302_2377.out
                       have hnb321 := NB2377_2310.out
                       have hnc321 := NB2310_2377.out
                       have hnb322 := NB2377_2317.out
                       have hnc322 := NB2317_2377.out
                       have hnb323 := NB2377_2324.out
                       have hnc323 := NB2324_2377.out
                       have hnb324 := NB2377_2331.out
                       have hnc324 := NB2331_2377.out
                       have hnb325 := NB2377_2338.out
                       have hnc325 := NB2338_2377.out
                       have hnb326 := NB2377_2345.out
                       have hnc326 := NB2345_2377.out
                       have hnb327 := NB2377_2352.out
                       have hnc327 := NB2352_2377.out
                       have hnb328 := NB2377_2363.out
                       have hnc328 := NB2363_2377.out
                       have hcz329_0 : w292.cell? ⟨gb2377, 0, none⟩ = some (.int .i64 0) := bc_ BK2377 0
                       have hcz329_1 : w292.cell? ⟨gb2377, 1, none⟩ = some (.string (⟨#[]⟩ : ByteArray)) := bc_ BK2377 1
                       have hcz329_2 : w292.cell? ⟨gb2377, 2, none⟩ = some (.string (⟨#[]⟩ : ByteArray)) := bc_ BK2377 2
                       have hcz329_3 : w292.cell? ⟨gb2377, 3, none⟩ = some (.int .i64 0) := bc_ BK2377 3
                       have hcz329_4 : w292.cell? ⟨gb2377, 4, none⟩ = some (.int .i64 0) := bc_ BK2377 4
                       have hfz329_0 := blk_frozen BK2377.out 0
                       have hfz329_1 := blk_frozen BK2377.out 1
                       have hfz329_2 := blk_frozen BK2377.out 2
                       have hfz329_3 := blk_frozen BK2377.out 3
                       have hfz329_4 := blk_frozen BK2377.out 4
                       go_wp2
                       go_meet
                       case rel => exact ⟨_, ((!(t2364 == t2371) || (!(t2365.toList == t2372.toList) || (!(t2366.toList == t2373.toList) || (!(t2367 == t2374) || (!(t2368 == t2375))))))), (qh15_), H', ⟨qh24_⟩, ⟨qh14_⟩, ⟨qh13_⟩, ⟨qh12_⟩, ⟨qh11_⟩, ⟨qh10_⟩, ⟨bf_ NB2294_2377.out BK2294.out⟩, ⟨bf_ NB2302_2377.out BK2302.out⟩, ⟨bf_ NB2310_2377.out BK2310.out⟩, ⟨bf_ NB2317_2377.out BK2317.out⟩, ⟨bf_ NB2324_2377.out BK2324.out⟩, ⟨bf_ NB2331_2377.out BK2331.out⟩, ⟨bf_ NB2338_2377.out BK2338.out⟩, ⟨bf_ NB2345_2377.out BK2345.out⟩, ⟨bf_ NB2352_2377.out BK2352.out⟩, ⟨bf_ NB2363_2377.out BK2363.out⟩, ⟨bf_ NB2370_2377.out BK2370.out⟩, ⟨bp_ BK2377.out⟩, ⟨hb_ HB.out⟩⟩
                      ·
                       rw [if_neg c306] at H
                       have c306b0 : (t2376 == t2369) = false := beq_eq_false_iff_ne.mpr c306
                       have c306b1 : (t2376 != t2369) = true := bne_iff_ne.mpr c306
                       have H' := Aside0.mk H
                       clear H
                       go_wp2
                       go_meet
                       case rel => exact ⟨_, (true), (qh15_), H', ⟨qh24_⟩, ⟨qh14_⟩, ⟨qh13_⟩, ⟨qh12_⟩, ⟨qh11_⟩, ⟨qh10_⟩, ⟨bf_ NB2294_2377.out BK2294.out⟩, ⟨bf_ NB2302_2377.out BK2302.out⟩, ⟨bf_ NB2310_2377.out BK2310.out⟩, ⟨bf_ NB2317_2377.out BK2317.out⟩, ⟨bf_ NB2324_2377.out BK2324.out⟩, ⟨bf_ NB2331_2377.out BK2331.out⟩, ⟨bf_ NB2338_2377.out BK2338.out⟩, ⟨bf_ NB2345_2377.out BK2345.out⟩, ⟨bf_ NB2352_2377.out BK2352.out⟩, ⟨bf_ NB2363_2377.out BK2363.out⟩, ⟨bf_ NB2370_2377.out BK2370.out⟩, ⟨bp_ BK2377.out⟩, ⟨hb_ HB.out⟩⟩
                     ·
                      rw [if_neg c305] at H
                      have c305b0 : (t2369 == 0) = false := beq_eq_false_iff_ne.mpr c305
                      have c305b1 : (t2369 != 0) = true := bne_iff_ne.mpr c305
                      (first | rw [c305b0] | (simp only [i64_w, i32_w]; rw [c305b0]) | rw [c305b4] | rw [c305b3] | skip)
                      have H' := Aside0.mk H
                      clear H
                      go_wp2
                      go_meet
                      case rel => exact ⟨_, (false), (qh15_), H', ⟨qh24_⟩, ⟨qh14_⟩, ⟨qh13_⟩, ⟨qh12_⟩, ⟨qh11_⟩, ⟨qh10_⟩, ⟨bf_ NB2294_2377.out BK2294.out⟩, ⟨bf_ NB2302_2377.out BK2302.out⟩, ⟨bf_ NB2310_2377.out BK2310.out⟩, ⟨bf_ NB2317_2377.out BK2317.out⟩, ⟨bf_ NB2324_2377.out BK2324.out⟩, ⟨bf_ NB2331_2377.out BK2331.out⟩, ⟨bf_ NB2338_2377.out BK2338.out⟩, ⟨bf_ NB2345_2377.out BK2345.out⟩, ⟨bf_ NB2352_2377.out BK2352.out⟩, ⟨bf_ NB2363_2377.out BK2363.out⟩, ⟨bf_ NB2370_2377.out BK2370.out⟩, ⟨bp_ BK2377.out⟩, ⟨hb_ HB.out⟩⟩
                    case rest =>
                     clear HC258
                     (try clear hcz268_0); (try clear hcz268_1); (try clear hcz268_2); (try clear hcz281_0); (try clear hcz281_1); (try clear hcz281_2); (try clear hcz281_3); (try clear hcz281_4); (try clear hcz290_0); (try clear hcz290_1); (try clear hcz290_2); (try clear hcz304_0); (try clear hcz304_1); (try clear hcz304_2); (try clear hcz304_3); (try clear hcz304_4); (try clear hfz268_0); (try clear hfz268_1); (try clear hfz268_2); (try clear hfz281_0); (try clear hfz281_1); (try clear hfz281_2); (try clear hfz281_3); (try clear hfz281_4); (try clear hfz290_0); (try clear hfz290_1); (try clear hfz290_2); (try clear hfz304_0); (try clear hfz304_1); (try clear hfz304_2); (try clear hfz304_3); (try clear hfz304_4)
                     obtain ⟨kq, x211_257, rfl, HA, HJ257, HO_2295002, HO_2303002, HO_2311002, HO_2318002, HO_2339002, BK2294, BK2302, BK2310, BK2317, BK2324, BK2331, BK2338, BK2345, BK2352, BK2363, BK2370, BK2377, HB⟩ := hcut
                     cases kq with
                     | zero => exact absurd HA.out (by simp [laws_FnRows.j9])
                     | succ kj257 =>
                      have H := HA.out
                      clear HA
                      simp only [laws_FnRows.j9] at H
                      by_cases c330 : x211_257 = true
                      ·
                       subst c330
                       have H1 : (some false) = some r := by rw [if_pos rfl] at H; exact H
                       clear H
                       have H := H1
                       clear H1
                       obtain rfl := Option.some.inj H
                       go_wp2
                       go_ret
                       exact ⟨er_, hb_ HB.out⟩
                      ·
                       replace c330 := Bool.eq_false_iff.mpr c330
                       subst c330
                       have H1 : (laws_FnRows.l0 kj257 (wrap64 (x28_7 + 1)) t2285 t2286 t2287 t2295 t2296 t2297) = some r := by rw [if_neg (show ¬ (false = true) by decide)] at H; exact H
                       clear H
                       have H := H1
                       clear H1
                       have H' := Aside0.mk H
                       clear H
                       go_wp2
                       go_roundg kj257
                       case measure => have := HJ2.out; have := HJ13.out; have := HJ119.out; have := HJ121.out; have := HJ143.out; have := HJ218.out; have := HK7.out; have := HJ231.out; have := HJ253.out; have := HJ257.out; omega
                       case rel => exact ⟨(wrap64 (x28_7 + 1)), (qh15_), H', ⟨by have := HJ2.out; have := HJ13.out; have := HJ119.out; have := HJ121.out; have := HJ143.out; have := HJ218.out; have := HK7.out; have := HJ231.out; have := HJ253.out; have := HJ257.out; omega⟩, ⟨rm_ HO_2295002.out⟩, ⟨rm_ HO_2303002.out⟩, ⟨rm_ HO_2311002.out⟩, ⟨rm_ HO_2318002.out⟩, ⟨rm_ HO_2339002.out⟩, ⟨bq_ BK2294.out⟩, ⟨bq_ BK2302.out⟩, ⟨bq_ BK2310.out⟩, ⟨bq_ BK2317.out⟩, ⟨bq_ BK2324.out⟩, ⟨bq_ BK2331.out⟩, ⟨bq_ BK2338.out⟩, ⟨bq_ BK2345.out⟩, ⟨bq_ BK2352.out⟩, ⟨bq_ BK2363.out⟩, ⟨hb_ HB.out⟩⟩
             case rest =>
              clear HC221
              (try clear hcz231_0); (try clear hcz231_1); (try clear hcz231_2); (try clear hfz231_0); (try clear hfz231_1); (try clear hfz231_2)
              obtain ⟨kq, HA, HJ220, HO_2295002, HO_2303002, HO_2311002, HO_2318002, HO_2339002, BK2294, BK2302, BK2310, BK2317, BK2324, BK2331, BK2338, BK2345, BK2352, BK2363, HB⟩ := hcut
              cases kq with
              | zero => exact absurd HA.out (by simp [laws_FnRows.j10])
              | succ kj220 =>
               have H := HA.out
               clear HA
               simp only [laws_FnRows.j10] at H
               replace H := Option.bind_eq_some_iff.mp H
               obtain ⟨t2378, A3310, H⟩ := H
               replace H : (some t2378) = some r := H
               have A331 := Aside0.mk A3310
               clear A3310
               obtain rfl := Option.some.inj H
               have hnb332 := NB2302_2294.out
               have hnc332 := NB2294_2302.out
               have hnb333 := NB2302_2310.out
               have hnc333 := NB2310_2302.out
               have hnb334 := NB2302_2317.out
               have hnc334 := NB2317_2302.out
               have hnb335 := NB2302_2324.out
               have hnc335 := NB2324_2302.out
               have hnb336 := NB2302_2331.out
               have hnc336 := NB2331_2302.out
               have hnb337 := NB2302_2338.out
               have hnc337 := NB2338_2302.out
               have hnb338 := NB2302_2345.out
               have hnc338 := NB2345_2302.out
               have hnb339 := NB2302_2352.out
               have hnc339 := NB2352_2302.out
               have hnb340 := NB2302_2363.out
               have hnc340 := NB2363_2302.out
               have hcz341_0 : wc.cell? ⟨gb2302, 0, none⟩ = some (.int .i64 t2295) := bc_ BK2302 0
               have hcz341_1 : wc.cell? ⟨gb2302, 1, none⟩ = some (.int .i64 t2296) := bc_ BK2302 1
               have hcz341_2 : wc.cell? ⟨gb2302, 2, none⟩ = some (.slice Ao23 t2297.length co23) := bc_ BK2302 2
               have hfz341_0 := blk_frozen BK2302.out 0
               have hfz341_1 := blk_frozen BK2302.out 1
               have hfz341_2 := blk_frozen BK2302.out 2
               go_wp2_with (first | ((with_reducible refine gate_callee (f := 44) rfl ?_); refine goesL_ (some 213) rfl rfl Try.func44 (by kernel_rfl) rfl #[.agg #[.int .i64 t2295, .int .i64 t2296, .slice Ao23 t2297.length co23]] rfl sm_ ?_; (with_reducible refine (impl_RowOk.calls kj220 t2295 t2296 _ _ t2297 t2378 _ ?side1 ?side2 A331.out).mono ?_); (case side1 => repeat (first | exact (Kd.R_reads' HO_2303002.out).2.2 | (with_reducible refine Kd.C_alloc ?_ _) | (with_reducible refine Kd.C_drewN ?_ _) | (with_reducible refine Kd.C_drew ?_))); (case side2 => exact (Kd.R_reads' HO_2303002.out).2.1); rintro e w342 ⟨rfl, hb⟩; refine ⟨_, rfl, ?_⟩; replace HO_2295002 := cr_ HO_2295002 hb; replace HO_2303002 := cr_ HO_2303002 hb; replace HO_2311002 := cr_ HO_2311002 hb; replace HO_2318002 := cr_ HO_2318002 hb; replace HO_2339002 := cr_ HO_2339002 hb; replace BK2294 := cb_ BK2294 hb; replace BK2302 := cb_ BK2302 hb; replace BK2310 := cb_ BK2310 hb; replace BK2317 := cb_ BK2317 hb; replace BK2324 := cb_ BK2324 hb; replace BK2331 := cb_ BK2331 hb; replace BK2338 := cb_ BK2338 hb; replace BK2345 := cb_ BK2345 hb; replace BK2352 := cb_ BK2352 hb; replace BK2363 := cb_ BK2363 hb; replace HB := ch_ HB hb; (try clear hb); (try clear hb2); (try clear hk); (try clear hi)))
               go_ret
               exact ⟨er_, hb_ HB.out⟩

/-- THE ONE PURE STATEMENT of laws_FnRows: yours. -/
def laws_FnRows.Pure : Prop := ∀ (l0 : List Int), l0.length ≤ maxLen → l0.length * 1 ≤ 140737488351232 → (∀ x ∈ l0, (Lit.int .u8 x).wf = true) → ∃ k, laws_FnRows.f k l0 = some true
theorem laws_FnRows.walk (P : laws_FnRows.Pure) (a0 : Option Addr) (len0 cap0 : Nat) (z0 : List Int) (w : World) (w0 : (a0 = none ∧ len0 = 0 ∧ cap0 = 0 ∧ z0 = []) ∨ ∃ x, a0 = some x ∧ len0 ≤ cap0 ∧ cap0 ≤ maxLen ∧ z0.length = cap0 ∧ (∀ i, i < z0.length → w.cell? (x.add i) = some (.int .u8 (z0.getD i 0))) ∧ ∀ n ∈ z0, (Lit.int .u8 n).wf = true) (y0 : len0 * 1 ≤ 140737488351232) :
 Calls Try.prog 6 #[.slice a0 len0 cap0] w fun e w' => e = .returned (.bool true) ∧ Below w.heap.size w w' := by
 obtain ⟨l0, rfl, hr0, hm0, hw0, hc0⟩ := ReadsInt.ofRowC w0
 obtain ⟨k, h⟩ := P l0 hm0 y0 hw0
 refine (laws_FnRows.calls k _ _ l0 true w (Kd.C_of_reads (d := (0 : Int)) (h1 := fun _ => rfl) hr0) hc0 h).mono ?_
 rintro e w' ⟨rfl, hd⟩
 exact ⟨rfl, hd⟩
end
end Go.Proofs.Ytiknkolclcdajaa.Q
