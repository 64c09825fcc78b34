/- FnExactConstants as a plain statement: proved. -/
import Derived.Test.YthkepjgolaichaaL0
import Derived.Test.YthkepjgolaichaaQ0
import Derived.Test.YthkepjgolaichaaQ8
namespace Go.Proofs.Ythkepjgolaichaa.Pure
open Go.Proofs.Ythkepjgolaichaa.Q
theorem FnExactConstants : ∃ _ : Nat, laws_FnExactConstants.f = some true := ⟨0, rfl⟩
end Go.Proofs.Ythkepjgolaichaa.Pure
