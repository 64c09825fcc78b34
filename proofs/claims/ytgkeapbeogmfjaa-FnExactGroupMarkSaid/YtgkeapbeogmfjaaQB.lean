/- A shorter form of one more step of a walk: what it leaves to be shown is shown by a tactic of its own. No condition but those of the theorem. -/
import Derived.Test.YtgkeapbeogmfjaaQ0
namespace Go.Proofs.Ytgkeapbeogmfjaa.Q
open Go.RowKit Go.Proofs.YtgkeapbeogmfjaaW.PrintWords Go.Proofs.YtgkeapbeogmfjaaW.PrintLast Go.Proofs.YtgkeapbeogmfjaaW.PrintMore
theorem rm_ {α : Type} {d : Kd α} {e : Nat} {W : World} {base : Nat} {ok : Nat → Prop} {v : Value} {xs : List α} {q : Prop} (h : d.R e W base ok v xs)
    (f : (∀ ok' : Nat → Prop, (∀ k, ok k → ok' k) → d.R e W base ok' v xs) → q := by intro h_; (with_reducible repeat (first | apply Kd.R_alloc | apply Kd.R_drewN | apply Kd.R_drew)); refine h_ _ ?_; intro k_ hk; first | exact hk | (simp only [hk, ne_eq, not_false_eq_true, and_self]; done)) : q := f (fun _ hm => Kd.R_mono h hm)
end Go.Proofs.Ytgkeapbeogmfjaa.Q
